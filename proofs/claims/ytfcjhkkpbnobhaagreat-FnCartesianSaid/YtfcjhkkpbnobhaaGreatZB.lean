/- The law FnCartesian gives true, whatever bytes come in. No conditions. (One of the texts of its proof, put together by a program of this session.) -/
import Derived.Test.YtfcjhkkpbnobhaaGreatZA
import Derived.Test.YtfcjhkkpbnobhaaGreatZW5
set_option linter.unusedSectionVars false
set_option linter.unusedSimpArgs false
set_option linter.unusedVariables false
noncomputable section
namespace Go.Proofs.YtfcjhkkpbnobhaaGreat.Nc
open Go Go.Proofs.YtfcjhkkpbnobhaaGreat.An
open Go.Proofs.YtfcjhkkpbnobhaaGreat.Ev hiding mn zfw neg_eq sq_lt sub_eq
def fx (n:Int):Re:=zi n*rat (1/4294967296)
def In (x:Re) (a:Iv):Prop:=ze a=true->fx a.lo.val<=x/\x<=fx a.hi.val
theorem In.no {x:Re} {a:Iv} (h:ze a=false):In x a:=fun k=>by rw [h] at k;cases k
theorem In.whole (x:Re):In x zm:=In.no zcy
theorem fx_le {a b:Int}:fx a<=fx b↔a<=b:=by
 unfold fx
 constructor
 ·intro h;exact zi_le.1 (ze4 (qp (1/4294967296)) h)
 ·intro h;have:=zi_le.2 h;generalize zi a=x at *;generalize zi b=y at *;exact zQ [x,y] (mn (sn this) (qn (1/4294967296)))
theorem fx_lt {a b:Int}:fx a<fx b↔a<b:=by
 rw [<- An.not_le,fx_le];omega
theorem fx_add (a b:Int):fx (a+b)=fx a+fx b:=by unfold fx;rw [zi_add,An.add_mul]
theorem zfQ (a:Int):fx (-a)= - fx a:=by unfold fx;rw [zi_neg,An.neg_mul]
theorem fx_sub (a b:Int):fx (a-b)=fx a-fx b:=by rw [Int.sub_eq_add_neg,fx_add,zfQ];rfl
theorem fx_0:fx 0=0:=An.zero_mul _
theorem fx_unit (a:Int):fx (a*4294967296)=zi a:=by
 unfold fx;rw [zi_mul];generalize zi a=x
 show x*rat (4294967296:Int)*_=x
 exact ring [x]
theorem fx_1:fx 4294967296=1:=fx_unit 1
theorem fx_nn {a:Int} (h:0<=a):0<=fx a:=by rw [<- fx_0];exact fx_le.2 h
theorem fx_p {a:Int} (h:0<a):0<fx a:=by rw [<- fx_0];exact fx_lt.2 h
theorem fx_neg' {a:Int} (h:a<0):fx a<0:=by rw [<- fx_0];exact fx_lt.2 h
theorem In.point {n:I64}:In (fx n.val) ⟨n,n⟩:=fun _=>⟨le_refl _,le_refl _⟩
theorem In.add {x y:Re} {a b:Iv} (h:In x a) (k:In y b):In (x+y) (zak a b):=fun ok=>by
 obtain ⟨o1,o2,e1,e2⟩:=addI_val ok
 obtain ⟨h1,h2⟩:=h o1
 obtain ⟨k1,k2⟩:=k o2
 rw [e1,e2,fx_add,fx_add]
 exact ⟨add_le h1 k1,add_le h2 k2⟩
theorem In.sub {x y:Re} {a b:Iv} (h:In x a) (k:In y b):In (x-y) (zO a b):=fun ok=>by
 obtain ⟨o1,o2,e1,e2⟩:=subI_val ok
 obtain ⟨h1,h2⟩:=h o1
 obtain ⟨k1,k2⟩:=k o2
 rw [e1,e2,fx_sub,fx_sub]
 generalize fx a.lo.val=p at *;generalize fx a.hi.val=q at *;generalize fx b.lo.val=r at *;generalize fx b.hi.val=s at *
 exact ⟨zQ [x,y,p,q,r,s] (pn (sn h1) (sn k2)),zQ [x,y,p,q,r,s] (pn (sn h2) (sn k1))⟩
theorem In.dbl {x:Re} {a:Iv} (h:In x a):In (2*x) (zbV a):=fun ok=>by
 obtain ⟨o1,e1,e2⟩:=dblI_val ok
 obtain ⟨h1,h2⟩:=h o1
 rw [e1,e2,show 2*a.lo.val=a.lo.val+a.lo.val by omega,show 2*a.hi.val=a.hi.val+a.hi.val by omega,fx_add,fx_add]
 generalize fx a.lo.val=p at *;generalize fx a.hi.val=q at *
 exact ⟨zQ [x,p,q] (kn 2 (sn h1)),zQ [x,p,q] (kn 2 (sn h2))⟩
theorem negI_val {a:Iv} (h:ze (zaZ a)=true):ze a=true/\(zaZ a).lo.val= -a.hi.val/\(zaZ a).hi.val= -a.lo.val:=by
 simp only [zaZ,t_spec_NegI,Tr.get] at h ⊢
 cases ha:ze a
 ·rw [ha] at h;simp only [Bool.not_false,ctr] at h;rw [zcy] at h;cases h
 have b:=(zca _).1 ha
 have e1:(Rng.w .i64 (0-a.hi.val)).val= -a.hi.val:=by rw [wi (by omega) (by omega)];omega
 have e2:(Rng.w .i64 (0-a.lo.val)).val= -a.lo.val:=by rw [wi (by omega) (by omega)];omega
 simp only [ha,Bool.not_true,cfl] at h ⊢
 rw [zdb (by rw [e1,e2];omega)]
 exact ⟨trivial,e1,e2⟩
theorem In.neg {x:Re} {a:Iv} (h:In x a):In (-x) (zaZ a):=fun ok=>by
 obtain ⟨o1,e1,e2⟩:=negI_val ok
 obtain ⟨h1,h2⟩:=h o1
 rw [e1,e2,zfQ,zfQ]
 generalize fx a.lo.val=p at *;generalize fx a.hi.val=q at *
 exact ⟨zQ [x,q] (sn h2),zQ [x,p] (sn h1)⟩
theorem fx_floor {p d:Int} (hd:0<d):zi (p/d)*zi d<=zi p:=by
 rw [<- zi_mul,zi_le]
 have:=Int.ediv_mul_le p (show d≠0 by omega)
 omega
theorem fx_mul_lo (x y:Int):fx (x*y/4294967296)<=fx x*fx y:=by
 have:=fx_floor (p:=x*y) (d:=4294967296) (by decide)
 rw [zi_mul x y] at this
 unfold fx
 generalize zi (x*y/4294967296)=q at *;generalize zi x=a at *;generalize zi y=b at *
 rw [show zi 4294967296=rat 4294967296 from rfl] at this
 exact zQ [q,a,b] (kn (1/18446744073709551616) (sn this))
theorem fx_mul_hi (x y:Int):fx x*fx y<=fx (-(-(x*y)/4294967296)):=by
 have:=fx_mul_lo (-x) y
 rw [show -x*y= -(x*y) from Int.neg_mul x y,zfQ x] at this
 rw [zfQ]
 generalize fx (-(x*y)/4294967296)=q at *;generalize fx x=a at *;generalize fx y=b at *
 exact zQ [q,a,b] (sn this)
theorem real_lo {p q r s x y L:Re} (hx:p<=x) (hx':x<=q) (hy:r<=y) (hy':y<=s) (h1:L<=p*r) (h2:L<=p*s) (h3:L<=q*r) (h4:L<=q*s):L<=x*y:=by
 have a:∀u,L<=u*r->L<=u*s->L<=u*y:=fun u k1 k2=>by
  rcases le_total 0 u with m|m
  ·exact le_trans k1 (zQ [u,r,y] (mn m (sn hy)))
  ·exact le_trans k2 (zQ [u,s,y] (mn (neg_nn m) (sn hy')))
 have b1:=a p h1 h2
 have b2:=a q h3 h4
 rcases le_total 0 y with m|m
 ·exact le_trans b1 (zQ [p,x,y] (mn (sn hx) m))
 ·exact le_trans b2 (zQ [q,x,y] (mn (sn hx') (neg_nn m)))
theorem real_hi {p q r s x y L:Re} (hx:p<=x) (hx':x<=q) (hy:r<=y) (hy':y<=s) (h1:p*r<=L) (h2:p*s<=L) (h3:q*r<=L) (h4:q*s<=L):x*y<=L:=by
 have:=real_lo (L:= -L) (p:= -q) (q:= -p) (x:= -x) (zQ [q,x] (sn hx')) (zQ [p,x] (sn hx)) hy hy'
  (zQ [q,r,L] (sn h3)) (zQ [q,s,L] (sn h4)) (zQ [p,r,L] (sn h1)) (zQ [p,s,L] (sn h2))
 exact zQ [x,y,L] (sn this)
theorem In.mul {x y:Re} {a b:Iv} (h:In x a) (k:In y b):In (x*y) (zS a b):=fun ok=>by
 obtain ⟨o1,o2,hc⟩:=mulI_corner ok
 obtain ⟨h1,h2⟩:=h o1
 obtain ⟨k1,k2⟩:=k o2
 have lo:∀u v:I64,(u=a.lo\/u=a.hi)->(v=b.lo\/v=b.hi)->fx (zS a b).lo.val<=fx u.val*fx v.val:=fun u v hu hv=>le_trans (fx_le.2 (hc u v hu hv).1) (fx_mul_lo _ _)
 have hi:∀u v:I64,(u=a.lo\/u=a.hi)->(v=b.lo\/v=b.hi)->fx u.val*fx v.val<=fx (zS a b).hi.val:=fun u v hu hv=>le_trans (fx_mul_hi _ _) (fx_le.2 (hc u v hu hv).2)
 exact ⟨real_lo h1 h2 k1 k2 (lo _ _ (.inl rfl) (.inl rfl)) (lo _ _ (.inl rfl) (.inr rfl)) (lo _ _ (.inr rfl) (.inl rfl)) (lo _ _ (.inr rfl) (.inr rfl)),
  real_hi h1 h2 k1 k2 (hi _ _ (.inl rfl) (.inl rfl)) (hi _ _ (.inl rfl) (.inr rfl)) (hi _ _ (.inr rfl) (.inl rfl)) (hi _ _ (.inr rfl) (.inr rfl))⟩
theorem ends_val {a:Iv} (h:ze a=true):0<=(zL a).a.val/\((a.lo.val<=0/\0<=a.hi.val/\(zL a).a.val=0)\/(0<a.lo.val/\(zL a).a.val=a.lo.val)\/(a.hi.val<0/\(zL a).a.val= -a.hi.val)) /\
  a.hi.val<=(zL a).b.val /\ -a.lo.val<=(zL a).b.val/\(zL a).b.val<1152921504606846976/\(zL a).a.val<=(zL a).b.val:=by
 have b:=(zca _).1 h
 have n1:(Rng.w .i64 (0-a.lo.val)).val= -a.lo.val:=by rw [wi (by omega) (by omega)];omega
 have n2:(Rng.w .i64 (0-a.hi.val)).val= -a.hi.val:=by rw [wi (by omega) (by omega)];omega
 have m1:=max_l a.lo (.w .i64 (0-a.lo.val))
 have m2:=max_l a.hi (.w .i64 (0-a.hi.val))
 have m3:=max_l (zq a.lo (.w .i64 (0-a.lo.val))) (zq a.hi (.w .i64 (0-a.hi.val)))
 have m4:=min_l (zq a.lo (.w .i64 (0-a.lo.val))) (zq a.hi (.w .i64 (0-a.hi.val)))
 rw [n1] at m1
 rw [n2] at m2
 have hh:zaT a ⟨0,rfl⟩=decide (a.lo.val<=0/\0<=a.hi.val):=by simp only [zaT,zcA,Tr.get,ze5]
 simp only [zL,zdX,Tr.get,hh]
 by_cases c:a.lo.val<=0/\0<=a.hi.val
 ·simp only [c,and_self,decide_true,ctr]
  exact ⟨by decide,by first|exact .inl trivial|simp [c.1,c.2],by omega,by omega,by omega,by omega⟩
 ·simp only [c,decide_false,cfl]
  exact ⟨by omega,by omega,by omega,by omega,by omega,by omega⟩
theorem In.ends {x:Re} {a:Iv} (h:In x a) (o:ze a=true):fx (zL a).a.val<=An.abs x/\An.abs x<=fx (zL a).b.val:=by
 obtain ⟨h1,h2⟩:=h o
 obtain ⟨e0,e1,e2,e3,e4,e5⟩:=ends_val o
 constructor
 ·rcases e1 with ⟨_,_,e⟩|⟨k,e⟩|⟨k,e⟩
  ·rw [e,fx_0];exact zc7 x
  ·rw [e];exact le_trans h1 (le_abs x)
  ·rw [e,zfQ]
   have:=neg_le_abs x
   generalize fx a.hi.val=q at *;generalize An.abs x=u at *
   exact zQ [x,q,u] (pn (sn this) (sn h2))
 ·refine abs_le ?_ (le_trans h2 (fx_le.2 e2))
  refine le_trans ?_ h1
  rw [<- zfQ];exact fx_le.2 (by omega)
theorem In.sqr {x:Re} {a:Iv} (h:In x a):In (x*x) (za7 a):=fun ok=>by
 obtain ⟨o1,e1,e2⟩:=sqrI_val ok
 obtain ⟨h1,h2⟩:=h.ends o1
 have e0:=(ends_val o1).1
 rw [e1,e2,<- abs_sq]
 exact ⟨le_trans (fx_mul_lo _ _) (mul_le (fx_nn e0) h1 (fx_nn e0) h1),le_trans (mul_le (zc7 x) h2 (zc7 x) h2) (fx_mul_hi _ _)⟩
theorem zi_nn {a:Int} (h:0<=a):0<=zi a:=by rw [<- zi_0];exact zi_le.2 h
theorem fx_sq (a:Int):fx a*fx a=zi (a*a)*rat (1/18446744073709551616):=by
 unfold fx;rw [zi_mul];generalize zi a=x;exact ring [x]
theorem fx_up (a:Int):fx a=zi (a*4294967296)*rat (1/18446744073709551616):=by
 unfold fx;rw [zi_mul];generalize zi a=x;show _=x*rat (4294967296:Int)*_;exact ring [x]
theorem zk_le {a b:Int} (h:a<=b):zi a*rat (1/18446744073709551616)<=zi b*rat (1/18446744073709551616):=by
 have:=zi_le.2 h;generalize zi a=x at *;generalize zi b=y at *;exact zQ [x,y] (mn (sn this) (qn (1/18446744073709551616)))
theorem In.sqrt {x:Re} {a:Iv} (h:In x a):In (An.sqrt x) (zbl a):=fun ok=>by
 obtain ⟨o1,o2⟩:=sqrtI_nn ok
 obtain ⟨_,e1,e2⟩:=sqrtI_mk o1 o2
 have b:=(zca _).1 o1
 obtain ⟨h1,h2⟩:=h o1
 have x0:=le_trans (fx_nn o2) h1
 rw [e1,e2]
 obtain ⟨q,p,s1,s2,t0,t1,t2,t3,t4,t5,t6,t7⟩:=su_val2 a.lo (by omega)
 obtain ⟨q',p',s1',s2',t0',t1',t2',t3',t4',t5',t6',t7'⟩:=su_val2 a.hi (by omega)
 rw [s1,s2']
 simp only
 constructor
 ·refine sq_le (An.sqrt_nn x) ?_
  rw [An.sqrt_sq x0,fx_sq]
  refine le_trans ?_ h1
  rw [fx_up];exact zk_le t2
 ·refine sq_le (fx_nn (by omega)) ?_
  rw [An.sqrt_sq x0,fx_sq]
  refine le_trans h2 ?_
  rw [fx_up];exact zk_le t6'
theorem fx_div_lo {x y:Int} (hy:0<y):fx (x*4294967296/y)<=fx x/fx y:=by
 rw [le_div (fx_p hy)]
 have:=fx_floor (p:=x*4294967296) hy
 unfold fx
 rw [zi_mul x] at this
 generalize zi (x*4294967296/y)=q at *;generalize zi x=a at *;generalize zi y=b at *
 rw [show zi 4294967296=rat 4294967296 from rfl] at this
 exact zQ [q,a,b] (kn (1/18446744073709551616) (sn this))
theorem neg_div (x y:Re): -x/y= -(x/y):=by rw [div_eq,div_eq,An.neg_mul]
theorem fx_div_hi {x y:Int} (hy:0<y):fx x/fx y<=fx (-(-x*4294967296/y)):=by
 have:=fx_div_lo (x:= -x) hy
 rw [zfQ,neg_div] at this
 rw [zfQ]
 generalize fx (-x*4294967296/y)=q at *;generalize fx x/fx y=a at *
 exact zQ [q,a] (sn this)
theorem inv_le {y s:Re} (h0:0<y) (h:y<=s):s⁻¹<=y⁻¹:=by
 have hs:=lt_of_lt_of_le h0 h
 have e1:=mul_inv (ne_of_gt h0)
 have e2:=mul_inv (ne_of_gt hs)
 refine ze4 (mp h0 hs) ?_
 generalize y⁻¹=a at *;generalize s⁻¹=b at *
 rw [show b*(y*s)=y*(s*b) from ring [b,y,s],show a*(y*s)=s*(y*a) from ring [a,y,s],e1,e2]
 exact zQ [y,s] (sn h)
theorem In.div_pos {x y:Re} {a b:Iv} (h:In x a) (k:In y b) (h0:0<b.lo.val):In (x/y) (zC a b):=fun ok=>by
 obtain ⟨o1,o2,hc⟩:=divI_corner h0 ok
 obtain ⟨h1,h2⟩:=h o1
 obtain ⟨k1,k2⟩:=k o2
 have b':=(zca _).1 o2
 have y0:=lt_of_lt_of_le (fx_p h0) k1
 have i1:=inv_le y0 k2
 have i2:=inv_le (fx_p h0) k1
 have p0:∀v:I64,(v=b.lo\/v=b.hi)->0<v.val:=by rintro v (rfl|rfl)<;>omega
 have lo:∀u v:I64,(u=a.lo\/u=a.hi)->(v=b.lo\/v=b.hi)->fx (zC a b).lo.val<=fx u.val*(fx v.val)⁻¹:=fun u v hu hv=>le_trans (fx_le.2 (hc u v hu hv).1) (fx_div_lo (p0 v hv))
 have hi:∀u v:I64,(u=a.lo\/u=a.hi)->(v=b.lo\/v=b.hi)->fx u.val*(fx v.val)⁻¹<=fx (zC a b).hi.val:=fun u v hu hv=>le_trans (fx_div_hi (p0 v hv)) (fx_le.2 (hc u v hu hv).2)
 exact ⟨real_lo h1 h2 i1 i2 (lo _ _ (.inl rfl) (.inr rfl)) (lo _ _ (.inl rfl) (.inl rfl)) (lo _ _ (.inr rfl) (.inr rfl)) (lo _ _ (.inr rfl) (.inl rfl)),
  real_hi h1 h2 i1 i2 (hi _ _ (.inl rfl) (.inr rfl)) (hi _ _ (.inl rfl) (.inl rfl)) (hi _ _ (.inr rfl) (.inr rfl)) (hi _ _ (.inr rfl) (.inl rfl))⟩
end Go.Proofs.YtfcjhkkpbnobhaaGreat.Nc
namespace Go.Proofs.YtfcjhkkpbnobhaaGreat.Nc
open Go Go.Proofs.YtfcjhkkpbnobhaaGreat.An
open Go.Proofs.YtfcjhkkpbnobhaaGreat.Ev hiding mn zfw neg_eq sq_lt sub_eq
theorem hull_in {a b:Iv} (ha:ze a=true) (hb:ze b=true):ze (zV a b)=true/\(zV a b).lo.val<=a.lo.val/\(zV a b).lo.val<=b.lo.val/\a.hi.val<=(zV a b).hi.val/\b.hi.val<=(zV a b).hi.val/\((zV a b).lo.val=a.lo.val\/(zV a b).lo.val=b.lo.val)/\((zV a b).hi.val=a.hi.val\/(zV a b).hi.val=b.hi.val):=by
 have oa:=(zca _).1 ha
 have ob:=(zca _).1 hb
 have m1:=min_l a.lo b.lo
 have m2:=max_l a.hi b.hi
 simp only [zV,t_spec_HullI,Tr.get,ha,hb,Bool.not_true,cfl]
 rw [zdb (by omega)]
 exact ⟨(zca _).2 (by simp only;omega),by simp only;omega,by simp only;omega,by simp only;omega,by simp only;omega,by simp only;omega,by simp only;omega⟩
theorem hull_ok {a b:Iv} (h:ze (zV a b)=true):ze a=true/\ze b=true:=by
 simp only [zV,t_spec_HullI,Tr.get] at h
 cases ha:ze a
 ·rw [ha] at h;simp only [Bool.not_false,ctr] at h;rw [zcy] at h;cases h
 cases hb:ze b
 ·rw [ha,hb] at h;simp only [Bool.not_false,Bool.not_true,ctr,cfl] at h;rw [zcy] at h;cases h
 exact ⟨rfl,rfl⟩
theorem In.hull_l {x:Re} {a b:Iv} (h:In x a):In x (zV a b):=fun ok=>by
 obtain ⟨oa,ob⟩:=hull_ok ok
 have hv:=hull_in oa ob
 obtain ⟨h1,h2⟩:=h oa
 exact ⟨le_trans (fx_le.2 hv.2.1) h1,le_trans h2 (fx_le.2 hv.2.2.2.1)⟩
theorem In.hull_r {x:Re} {a b:Iv} (h:In x b):In x (zV a b):=fun ok=>by
 obtain ⟨oa,ob⟩:=hull_ok ok
 have hv:=hull_in oa ob
 obtain ⟨h1,h2⟩:=h ob
 exact ⟨le_trans (fx_le.2 hv.2.2.1) h1,le_trans h2 (fx_le.2 hv.2.2.2.2.1)⟩
theorem In.between {x y z:Re} {a:Iv} (h:In x a) (k:In y a) (h1:x<=z) (h2:z<=y):In z a:=fun ok=>⟨le_trans (h ok).1 h1,le_trans h2 (k ok).2⟩
theorem In.int {n:I64} (h: -268435455<=n.val/\n.val<=268435455):In (zi n.val) (zB n):=fun _=>by
 have e:(Rng.w .i64 (n.val*4294967296)).val=n.val*4294967296:=wi (by omega) (by omega)
 rw [int_val h]
 simp only [e,fx_unit]
 exact ⟨le_refl _,le_refl _⟩
theorem In.one:In 1 (zB ⟨1,rfl⟩):=In.int (n:=⟨1,rfl⟩) (by decide)
theorem int_ok {n:I64} (h: -268435455<=n.val/\n.val<=268435455):ze (zB n)=true/\(zB n).lo.val=n.val*4294967296/\(zB n).hi.val=n.val*4294967296:=by
 have e:(Rng.w .i64 (n.val*4294967296)).val=n.val*4294967296:=wi (by omega) (by omega)
 rw [int_val h]
 exact ⟨(zca _).2 (by simp only [e];omega),e,e⟩
theorem In.over {x:Re} {a:Iv} (h:In x a) {n:I64} (q:Nat) (hn:n.val=((q+1:Nat):Int)) (hq:q<=268435454):In (x*rat (1/((q+1:Nat):Rat))) (zC a (zB n)):=by
 have hb: -268435455<=n.val/\n.val<=268435455:=by omega
 have:=h.div_pos (In.int hb) (by rw [(int_ok hb).2.1];omega)
 have e:x/zi n.val=x*rat (1/((q+1:Nat):Rat)):=by
  rw [hn,zi_nat]
  have i:=inv_nat q
  have p:0<rat ((q+1:Nat):Rat):=nat_p (Nat.succ_pos q)
  refine eq_of_mul (ne_of_gt p) ?_
  rw [div_mul (ne_of_gt p)]
  generalize rat ((q+1:Nat):Rat)=u at *;generalize rat (1/((q+1:Nat):Rat))=v at *
  exact eq_by [x,u,v] (congrArg (fun t=>x * -t) i:x * -(u*v)=x * -1)
 rwa [e] at this
theorem ring_ok:ze zR=true/\zR.lo.val= -4294967296/\zR.hi.val=4294967296:=⟨(zca _).2 (by decide +kernel),rfl,rfl⟩
theorem fx_m1:fx (-4294967296)= -1:=by rw [zfQ,fx_1]
theorem In.ring {x:Re} (h1: -1<=x) (h2:x<=1):In x zR:=fun _=>by
 rw [ring_ok.2.1,ring_ok.2.2,fx_m1,fx_1];exact ⟨h1,h2⟩
theorem In.tiny {x:Re} (h:An.abs x<=rat (1/4294967296)):In x zbp:=fun _=>by
 obtain ⟨a,b⟩:=zfv h
 have e1:zbp.lo.val= -1:=rfl
 have e2:zbp.hi.val=1:=rfl
 have e3:fx 1=rat (1/4294967296):=one_mul _
 rw [e1,e2,zfQ,e3];exact ⟨a,b⟩
theorem meet_in (a:Iv):ze (zay a)=true /\ -4294967296<=(zay a).lo.val/\(zay a).hi.val<=4294967296 /\
  ((zay a).lo.val= -4294967296\/(ze a=true/\(zay a).lo.val=a.lo.val))/\((zay a).hi.val=4294967296\/(ze a=true/\(zay a).hi.val=a.hi.val)):=by
 have o:=ring_ok.1
 have e1:zR.lo.val= -4294967296:=rfl
 have e2:zR.hi.val=4294967296:=rfl
 simp only [zay,t_spec_l06Meet,zcP,zeF,Tr.get,o,Bool.not_true,cfl]
 cases ha:ze a
 ·simp only [Bool.not_false,Bool.not_true,ctr,cfl];exact ⟨o,by omega,by omega,.inl e1,.inl e2⟩
 have ba:=(zca _).1 ha
 have m1:=max_l a.lo zR.lo
 have m2:=min_l a.hi zR.hi
 rw [e1] at m1
 rw [e2] at m2
 simp only [Bool.not_true,cfl]
 by_cases hlt:(zq a.lo zR.lo).val>(zu a.hi zR.hi).val
 ·simp only [hlt,decide_true,ctr,Bool.not_false];exact ⟨o,by omega,by omega,.inl e1,.inl e2⟩
 ·simp only [hlt,decide_false,cfl,Bool.not_true]
  refine ⟨(zca _).2 (by first|omega|(simp only;omega)),by first|omega|(simp only;omega),by first|omega|(simp only;omega),?_,?_⟩
  ·simp only [true_and];omega
  ·simp only [true_and];omega
theorem In.meet {x:Re} {a:Iv} (h:In x a) (h1: -1<=x) (h2:x<=1):In x (zay a):=fun ok=>by
 obtain ⟨_,_,_,m1,m2⟩:=meet_in a
 constructor
 ·rcases m1 with e|⟨o,e⟩
  ·rw [e,fx_m1];exact h1
  ·rw [e];exact (h o).1
 ·rcases m2 with e|⟨o,e⟩
  ·rw [e,fx_1];exact h2
  ·rw [e];exact (h o).2
def chk (n:Int):Bool:=decide ((n*7244019458077122842)%1073741824+n<=1073741824)
def chkTo:Nat->Bool
 | 0=>true
 | n+1=>chk ((n+1:Nat):Int)&&chkTo n
theorem chk_all:chkTo 4096=true:=by kernel_rfl
theorem chk_of {n:Nat} (h:chkTo n=true) {m:Int} (h1:0<m) (h2:m<=(n:Int)):(m*7244019458077122842)%1073741824+m<=1073741824:=by
 induction n with
 | zero=>exact absurd h1 (by omega)
 | succ n ih=>
  simp only [chkTo,Bool.and_eq_true] at h
  by_cases k:m=((n+1:Nat):Int)
  ·rw [k];exact of_decide_eq_true h.1
  ·exact ih h.2 (by omega)
theorem turn_val {k:I64} (h:0<k.val) (h':k.val<=4096):(zH k).lo.val=k.val*7244019458077122842/1073741824/\(zH k).hi.val=k.val*7244019458077122842/1073741824+1 /\
  (zbC k).lo.val=k.val*7244019458077122842/1073741824/\(zbC k).hi.val=k.val*7244019458077122842/1073741824+1:=by
 obtain ⟨e,b1,b2⟩:=turn_lo h h'
 have e0:(k.val==0)=false:=by simp;omega
 have hd:decide (k.val<0)=false:=by simp;omega
 simp only [zH,zcz,zbC,zcY,Tr.get,e0,hd,e,cfl]
 have e1:(Rng.w .i64 (k.val*7244019458077122842/1073741824)).val=k.val*7244019458077122842/1073741824:=wi (by omega) (by omega)
 rw [e1]
 have e2:(Rng.w .i64 (k.val*7244019458077122842/1073741824+1)).val=k.val*7244019458077122842/1073741824+1:=wi (by omega) (by omega)
 exact ⟨rfl,e2,rfl,e2⟩
theorem turn_real {k:Int} (h:0<k) (h':k<=4096):fx (k*7244019458077122842/1073741824)<=qt k/\qt k<=fx (k*7244019458077122842/1073741824+1):=by
 have hk2:=chk_of chk_all (m:=k) h (by omega)
 have f1:(k*7244019458077122842/1073741824)*1073741824<=k*7244019458077122842:=by omega
 have f2:k*7244019458077122843<=(k*7244019458077122842/1073741824+1)*1073741824:=by omega
 have g1:=zi_le.2 f1
 have g2:=zi_le.2 f2
 rw [zi_mul,zi_mul] at g1 g2
 have z0:=zi_nn (show 0<=k by omega)
 have p1:=hp_lo
 have p2:=hp_hi
 unfold fx qt
 generalize zi (k*7244019458077122842/1073741824)=q at *;generalize zi (k*7244019458077122842/1073741824+1)=q' at *;generalize zi k=z at *
 rw [show zi 1073741824=rat 1073741824 from rfl] at g1 g2
 rw [show zi 7244019458077122842=rat 7244019458077122842 from rfl] at g1
 rw [show zi 7244019458077122843=rat 7244019458077122843 from rfl] at g2
 generalize hp=p at *
 exact ⟨zQ [q,z,p] (pn (kn (1/4611686018427387904) (sn g1)) (mn z0 (sn p1))),zQ [q',z,p] (pn (kn (1/4611686018427387904) (sn g2)) (mn z0 (sn p2)))⟩
theorem In.turn {k:I64} (h: -4096<=k.val) (h':k.val<=4096):ze (zU k)=true/\fx (zU k).lo.val<=qt k.val/\qt k.val<=fx (zU k).hi.val:=by
 obtain ⟨g,e⟩:=turn_in h h'
 rw [e]
 by_cases k0:k.val=0
 ·have e0:(k.val==0)=true:=by simp [k0]
  have ev:zH k=⟨⟨0,rfl⟩,⟨0,rfl⟩⟩:=by simp only [zH,zcz,Tr.get,e0,ctr]
  rw [ev,k0]
  refine ⟨(zca _).2 (by decide),?_,?_⟩
  ·show fx 0<=qt 0;rw [fx_0,qt_0];exact le_refl _
  ·show qt 0<=fx 0;rw [fx_0,qt_0];exact le_refl _
 by_cases kp:0<k.val
 ·obtain ⟨v1,v2,_,_⟩:=turn_val kp h'
  obtain ⟨r1,r2⟩:=turn_real kp h'
  refine ⟨(zca _).2 ?_,by rw [v1];exact r1,by rw [v2];exact r2⟩
  rw [v1,v2];omega
 ·have en:(Rng.w .i64 (0-k.val)).val= -k.val:=by rw [wi (by omega) (by omega)];omega
  obtain ⟨_,_,v1,v2⟩:=turn_val (k:= .w .i64 (0-k.val)) (by rw [en];omega) (by rw [en];omega)
  obtain ⟨r1,r2⟩:=turn_real (k:= -k.val) (by omega) (by omega)
  rw [en] at v1 v2
  have e0:(k.val==0)=false:=by simp [k0]
  have hd:decide (k.val<0)=true:=by simp;omega
  obtain ⟨x,h1,h2,h3⟩:=turn_p (.w .i64 (0-k.val)) (by rw [en];omega) (by rw [en];omega)
  have g1:zdD (.w .i64 (0-k.val))=true:=by unfold zdD;rw [h1];rfl
  have w1:(Rng.w .i64 (0-(zbC (.w .i64 (0-k.val))).hi.val)).val= -(-k.val*7244019458077122842/1073741824+1):=by rw [v2,wi (by omega) (by omega)];omega
  have w2:(Rng.w .i64 (0-(zbC (.w .i64 (0-k.val))).lo.val)).val= -(-k.val*7244019458077122842/1073741824):=by rw [v1,wi (by omega) (by omega)];omega
  have ev:zH k=⟨.w .i64 (0-(zbC (.w .i64 (0-k.val))).hi.val),.w .i64 (0-(zbC (.w .i64 (0-k.val))).lo.val)⟩:=by
   simp only [zH,zcz,Tr.get,e0,hd,g1,ctr,cfl]
  rw [ev]
  simp only [w1,w2]
  have qn':=qt_neg k.val
  rw [qn'] at r1 r2
  refine ⟨(zca _).2 (by simp only [w1,w2];omega),?_,?_⟩
  ·rw [zfQ];generalize fx (-k.val*7244019458077122842/1073741824+1)=u at *;generalize qt k.val=v at *;exact zQ [u,v] (sn r2)
  ·rw [zfQ];generalize fx (-k.val*7244019458077122842/1073741824)=u at *;generalize qt k.val=v at *;exact zQ [u,v] (sn r1)
theorem In.turn' {k:I64} (h: -4096<=k.val) (h':k.val<=4096):In (qt k.val) (zU k):=fun _=>(In.turn h h').2
def rad (n:Int):Re:=zi n*(hp*rat (1/900000000))
theorem rad_neg (n:Int):rad (-n)= - rad n:=by unfold rad;rw [zi_neg,An.neg_mul]
theorem rad_add (m n:Int):rad (m+n)=rad m+rad n:=by unfold rad;rw [zi_add,An.add_mul]
theorem rad_0:rad 0=0:=An.zero_mul _
theorem rad_real {n:Int} (h:0<n):fx (n*7244019458077122842/966367641600000000)<=rad n/\rad n<=fx (n*7244019458077122843/966367641600000000+1):=by
 have f1:(n*7244019458077122842/966367641600000000)*966367641600000000<=n*7244019458077122842:=by omega
 have f2:n*7244019458077122843<=(n*7244019458077122843/966367641600000000+1)*966367641600000000:=by omega
 have g1:=zi_le.2 f1
 have g2:=zi_le.2 f2
 rw [zi_mul,zi_mul] at g1 g2
 have z0:=zi_nn (show 0<=n by omega)
 have p1:=hp_lo
 have p2:=hp_hi
 unfold fx rad
 generalize zi (n*7244019458077122842/966367641600000000)=q at *;generalize zi (n*7244019458077122843/966367641600000000+1)=q' at *;generalize zi n=z at *
 rw [show zi 966367641600000000=rat 966367641600000000 from rfl] at g1 g2
 rw [show zi 7244019458077122842=rat 7244019458077122842 from rfl] at g1
 rw [show zi 7244019458077122843=rat 7244019458077122843 from rfl] at g2
 generalize hp=p at *
 exact ⟨zQ [q,z,p] (pn (kn (1/4150517416584649113600000000) (sn g1)) (kn (1/900000000) (mn z0 (sn p1)))),zQ [q',z,p] (pn (kn (1/4150517416584649113600000000) (sn g2)) (kn (1/900000000) (mn z0 (sn p2))))⟩
theorem rad_val {n:I64} (h:0<n.val) (h':n.val<=36000000000):((zP n).lo.val=n.val*7244019458077122842/966367641600000000/\(zP n).hi.val=n.val*7244019458077122843/966367641600000000+1) /\
  ((zcg n).lo.val=n.val*7244019458077122842/966367641600000000/\(zcg n).hi.val=n.val*7244019458077122843/966367641600000000+1)/\zdQ n=true:=by
 have e0:(n.val==0)=false:=by simp;omega
 have hd:decide (n.val<0)=false:=by simp;omega
 have hi:zar n ⟨(-36000000000),rfl⟩ ⟨36000000000,rfl⟩=true:=by rw [ze5];simp;omega
 have m1:zaL n ⟨7244019458077122842,rfl⟩ ⟨966367641600000000,rfl⟩=⟨.w .i64 (n.val*7244019458077122842/966367641600000000),true⟩:=by
  rw [ze3,MD,if_pos (by decide)];exact narrow_ok (by simp only;omega) (by simp only;omega)
 have m2:zaL n ⟨7244019458077122843,rfl⟩ ⟨966367641600000000,rfl⟩=⟨.w .i64 (n.val*7244019458077122843/966367641600000000),true⟩:=by
  rw [ze3,MD,if_pos (by decide)];exact narrow_ok (by simp only;omega) (by simp only;omega)
 have w1:(Rng.w .i64 (n.val*7244019458077122842/966367641600000000)).val=n.val*7244019458077122842/966367641600000000:=wi (by omega) (by omega)
 have w2:(Rng.w .i64 (n.val*7244019458077122843/966367641600000000)).val=n.val*7244019458077122843/966367641600000000:=wi (by omega) (by omega)
 have w3:(Rng.w .i64 (n.val*7244019458077122843/966367641600000000+1)).val=n.val*7244019458077122843/966367641600000000+1:=wi (by omega) (by omega)
 refine ⟨?_,?_,?_⟩
 ·simp only [zP,zbz,Tr.get,hi,e0,hd,m1,m2,md_G_spec,ctr,cfl,Bool.not_true,w1,w2,w3,and_self]
 ·simp only [zcg,zbN,Tr.get,hi,e0,hd,m1,m2,md_G_spec,ctr,cfl,Bool.not_true,w1,w2,w3,and_self]
 ·simp only [zdQ,zbN,Tr.opt,hi,e0,hd,m1,m2,md_G_spec,ctr,cfl,Bool.not_true,Option.isSome]
theorem In.rad {n:I64}:In (rad n.val) (zP n):=by
 by_cases hr: -36000000000<=n.val/\n.val<=36000000000
 ·have hi:zar n ⟨(-36000000000),rfl⟩ ⟨36000000000,rfl⟩=true:=by rw [ze5];simpa using hr
  by_cases k0:n.val=0
  ·have e0:(n.val==0)=true:=by simp [k0]
   have ev:zP n=⟨⟨0,rfl⟩,⟨0,rfl⟩⟩:=by simp only [zP,zbz,Tr.get,hi,e0,ctr,cfl,Bool.not_true]
   rw [ev,k0]
   intro _
   show fx 0<=Nc.rad 0/\Nc.rad 0<=fx 0
   rw [fx_0,rad_0];exact ⟨le_refl _,le_refl _⟩
  by_cases kp:0<n.val
  ·intro _
   rw [(rad_val kp hr.2).1.1,(rad_val kp hr.2).1.2]
   exact rad_real kp
  ·have en:(Rng.w .i64 (0-n.val)).val= -n.val:=by rw [wi (by omega) (by omega)];omega
   obtain ⟨_,⟨v1,v2⟩,g⟩:=rad_val (n:= .w .i64 (0-n.val)) (by rw [en];omega) (by rw [en];omega)
   have e0:(n.val==0)=false:=by simp [k0]
   have hd:decide (n.val<0)=true:=by simp;omega
   simp only [zP,zbz,Tr.get,hi,e0,hd,g,ctr,cfl,Bool.not_true]
   have:In (Nc.rad (-n.val)) (zcg (.w .i64 (0-n.val))):=fun _=>by
    rw [v1,v2,en];exact rad_real (by omega)
   have:=this.neg
   rw [rad_neg] at this
   rwa [show - - Nc.rad n.val=Nc.rad n.val from by generalize Nc.rad n.val=u;exact An.ring [u]] at this
 ·have hi:zar n ⟨(-36000000000),rfl⟩ ⟨36000000000,rfl⟩=false:=by rw [ze5];simpa using hr
  simp only [zP,zbz,Tr.get,hi,Bool.not_false,ctr,zc6]
  exact In.whole _
end Go.Proofs.YtfcjhkkpbnobhaaGreat.Nc
namespace Go.Proofs.YtfcjhkkpbnobhaaGreat.Nc
open Go Go.Proofs.YtfcjhkkpbnobhaaGreat.An
open Go.Proofs.YtfcjhkkpbnobhaaGreat.Ev hiding mn zfw neg_eq sq_lt sub_eq
theorem In.over' {x:Re} {a:Iv} (h:In x a) {n:I64} (q:Nat) (r:Rat) (hn:n.val=((q+1:Nat):Int):=by kernel_rfl) (hq:decide (q<=268435454)=true:=by kernel_rfl) (hr:1/((q+1:Nat):Rat)=r:=by kernel_rfl):In (x*rat r) (zC a (zB n)):=by
 rw [<- hr];exact h.over q hn (of_decide_eq_true hq)
theorem In.series0 {y:Re} {a:Iv} (h:In y a):In (1-y*rat (1/6)*(1-y*rat (1/20)*(1-y*rat (1/42)*(1-y*rat (1/72)*(1-y*rat (1/110)*(1-y*rat (1/156)*(1-y*rat (1/210)*(1-y*rat (1/272)*1)))))))) (zaR a ⟨0,rfl⟩):=by
 simp only [zaR,zcm,Tr.get]
 exact (In.sub In.one (In.mul (h.over' 5 (1/6)) (In.sub In.one (In.mul (h.over' 19 (1/20)) (In.sub In.one (In.mul (h.over' 41 (1/42)) (In.sub In.one (In.mul (h.over' 71 (1/72)) (In.sub In.one (In.mul (h.over' 109 (1/110)) (In.sub In.one (In.mul (h.over' 155 (1/156)) (In.sub In.one (In.mul (h.over' 209 (1/210)) (In.sub In.one (In.mul (h.over' 271 (1/272)) In.one))))))))))))))))
theorem In.series1 {y:Re} {a:Iv} (h:In y a):In (1-y*rat (1/2)*(1-y*rat (1/12)*(1-y*rat (1/30)*(1-y*rat (1/56)*(1-y*rat (1/90)*(1-y*rat (1/132)*(1-y*rat (1/182)*(1-y*rat (1/240)*1)))))))) (zaR a ⟨-1,rfl⟩):=by
 simp only [zaR,zcm,Tr.get]
 exact (In.sub In.one (In.mul (h.over' 1 (1/2)) (In.sub In.one (In.mul (h.over' 11 (1/12)) (In.sub In.one (In.mul (h.over' 29 (1/30)) (In.sub In.one (In.mul (h.over' 55 (1/56)) (In.sub In.one (In.mul (h.over' 89 (1/90)) (In.sub In.one (In.mul (h.over' 131 (1/132)) (In.sub In.one (In.mul (h.over' 181 (1/182)) (In.sub In.one (In.mul (h.over' 239 (1/240)) In.one))))))))))))))))
theorem ring_in {a:Iv} (h:zaU a zR=true):ze a=true /\ -4294967296<=a.lo.val/\a.hi.val<=4294967296:=by
 have e1:zR.lo.val= -4294967296:=rfl
 have e2:zR.hi.val=4294967296:=rfl
 simp only [zaU,zdY,Tr.get,ring_ok.1,Bool.not_true,cfl,e1,e2] at h
 revert h
 cases ze a<;>by_cases h1: -4294967296<=a.lo.val<;>simp [h1,ctr,cfl]
theorem In.abs1 {x:Re} {a:Iv} (h:In x a) (k:zaU a zR=true):An.abs x<=1:=by
 obtain ⟨o,k1,k2⟩:=ring_in k
 obtain ⟨h1,h2⟩:=h o
 have l1:=fx_le.2 k1
 have l2:=fx_le.2 k2
 rw [fx_m1] at l1
 rw [fx_1] at l2
 exact abs_le (le_trans l1 h1) (le_trans h2 l2)
theorem In.sinS {x:Re} {a:Iv} (h:In x a):In (sin x) (za4 a):=by
 simp only [za4,zdy,Tr.get,zc6]
 cases hi:zaU a zR
 ·exact In.whole _
 simp only [Bool.not_true,cfl]
 have e:=le_trans (sin_horner (h.abs1 hi)) (num_le _ (1/4294967296))
 have:=(h.mul h.sqr.series0).add (In.tiny e)
 generalize x*(1-(x*x)*rat (1/6)*(1-(x*x)*rat (1/20)*(1-(x*x)*rat (1/42)*(1-(x*x)*rat (1/72)*(1-(x*x)*rat (1/110)*(1-(x*x)*rat (1/156)*(1-(x*x)*rat (1/210)*(1-(x*x)*rat (1/272)*1))))))))=u at *;generalize sin x=s at *
 rwa [show u+(s-u)=s from An.ring [u,s]] at this
theorem In.cosS {x:Re} {a:Iv} (h:In x a):In (cos x) (za5 a):=by
 simp only [za5,zdA,Tr.get,zc6]
 cases hi:zaU a zR
 ·exact In.whole _
 simp only [Bool.not_true,cfl]
 have e:=le_trans (cos_horner (h.abs1 hi)) (num_le _ (1/4294967296))
 have:=h.sqr.series1.add (In.tiny e)
 generalize (1-(x*x)*rat (1/2)*(1-(x*x)*rat (1/12)*(1-(x*x)*rat (1/30)*(1-(x*x)*rat (1/56)*(1-(x*x)*rat (1/90)*(1-(x*x)*rat (1/132)*(1-(x*x)*rat (1/182)*(1-(x*x)*rat (1/240)*1))))))))=u at *;generalize cos x=s at *
 rwa [show u+(s-u)=s from An.ring [u,s]] at this
def and4 (x:Int):Bool:=(Rng.w .i64 (zba .and .i64 (Rng.w .i64 x).val 3)).val==x%4
def and4To:Nat->Bool
 | 0=>and4 0
 | n+1=>and4 (n+1:Nat)&&(and4 (-((n+1:Nat):Int))&&and4To n)
theorem and4_all:and4To 600=true:=by kernel_rfl
theorem and4_of {n:Nat} (h:and4To n=true) {m:Int} (h1: -(n:Int)<=m) (h2:m<=n):(Rng.w .i64 (zba .and .i64 (Rng.w .i64 m).val 3)).val=m%4:=by
 induction n with
 | zero=>
  have:m=0:=by omega
  subst this
  exact eq_of_beq h
 | succ n ih=>
  simp only [and4To,Bool.and_eq_true] at h
  by_cases k1:m=((n+1:Nat):Int)
  ·have:=h.1
   rw [<- k1] at this
   exact eq_of_beq this
  by_cases k2:m= -((n+1:Nat):Int)
  ·have:=h.2.1
   rw [<- k2] at this
   exact eq_of_beq this
  exact ih h.2.2 (by omega) (by omega)
theorem and4_eq {m:Int} (h1: -600<=m) (h2:m<=600):(Rng.w .i64 (zba .and .i64 (Rng.w .i64 m).val 3)).val=m%4:=and4_of and4_all h1 h2
theorem sin_in (x:Re): -1<=sin x/\sin x<=1:=⟨sin_gem1 x,sin_le1 x⟩
theorem In.at {n t:I64} (ht:0<=t.val/\t.val<=3):In (sin (fx n.val+qt t.val)) (zbf n t):=by
 have hs:=sin_in (fx n.val+qt t.val)
 simp only [zbf,t_spec_l06At,Tr.get]
 cases zaV n
 ·exact In.ring hs.1 hs.2
 have hb:=quarter_bd n
 have h4:=and4_eq (m:=(zal n).val+t.val) (by omega) (by omega)
 have hk:In (fx n.val-qt (zal n).val) (zO (zo n) (zU (zal n))):=by
  refine In.sub ?_ (In.turn' (by omega) (by omega))
  simp only [zo,zfE,Tr.get]
  exact In.point
 simp only [Bool.not_true,cfl,h4]
 generalize zO (zo n) (zU (zal n))=c at hk
 have e:fx n.val+qt t.val=(fx n.val-qt (zal n).val)+qt ((zal n).val+t.val):=by
  rw [qt_add];generalize fx n.val=u;generalize qt (zal n).val=v;generalize qt t.val=w;exact An.ring [u,v,w]
 rw [e] at hs ⊢
 generalize fx n.val-qt (zal n).val=r at *
 generalize (zal n).val+t.val=k at *
 have hk4:k%4=0\/k%4=1\/k%4=2\/k%4=3:=by omega
 rcases hk4 with h|h|h|h
 ·have e0:(k%4==0)=true:=by simp [h]
  simp only [e0,ctr]
  rw [sin_q0 r h] at hs ⊢
  exact hk.sinS.meet hs.1 hs.2
 ·have e0:(k%4==0)=false:=by simp [h]
  have e1:(k%4==1)=true:=by simp [h]
  simp only [e0,e1,ctr,cfl]
  rw [sin_q1 r h] at hs ⊢
  exact hk.cosS.meet hs.1 hs.2
 ·have e0:(k%4==0)=false:=by simp [h]
  have e1:(k%4==1)=false:=by simp [h]
  have e2:(k%4==2)=true:=by simp [h]
  simp only [e0,e1,e2,ctr,cfl]
  rw [sin_q2 r h] at hs ⊢
  exact hk.sinS.neg.meet hs.1 hs.2
 ·have e0:(k%4==0)=false:=by simp [h]
  have e1:(k%4==1)=false:=by simp [h]
  have e2:(k%4==2)=false:=by simp [h]
  simp only [e0,e1,e2,cfl]
  rw [sin_q3 r h] at hs ⊢
  exact hk.cosS.neg.meet hs.1 hs.2
theorem ring_bd:ze zR=true /\ -4294967296<=zR.lo.val/\zR.hi.val<=4294967296:=⟨ring_ok.1,by rw [ring_ok.2.1];decide,by rw [ring_ok.2.2];decide⟩
theorem at_in (n t:I64):ze (zbf n t)=true /\ -4294967296<=(zbf n t).lo.val/\(zbf n t).hi.val<=4294967296:=by
 have m:∀a,ze (zay a)=true /\ -4294967296<=(zay a).lo.val/\(zay a).hi.val<=4294967296:=fun a=>⟨(meet_in a).1,(meet_in a).2.1,(meet_in a).2.2.1⟩
 simp only [zbf,t_spec_l06At,Tr.get]
 cases zaV n
 ·exact ring_bd
 simp only [Bool.not_true,cfl]
 generalize ((Rng.w .i64 (zba .and .i64 (Rng.w .i64 ((zal n).val+t.val)).val 3)).val==0)=c0
 generalize ((Rng.w .i64 (zba .and .i64 (Rng.w .i64 ((zal n).val+t.val)).val 3)).val==1)=c1
 generalize ((Rng.w .i64 (zba .and .i64 (Rng.w .i64 ((zal n).val+t.val)).val 3)).val==2)=c2
 cases c0<;>cases c1<;>cases c2<;>exact m _
theorem quarter_all {n:I64} (h: -1099511627776<=n.val/\n.val<=1099511627776):(zal n).val=(n.val+3373259426)/6746518852:=by
 have ha:zaV n=true:=by simp only [zaV,zdr,Tr.get,ze5];simpa using h
 have hb:=h
 have e1:(Rng.w .i64 (n.val+3373259426)).val=n.val+3373259426:=wi (by omega) (by omega)
 have hs:Int.sign 6746518852=1:=rfl
 have ht:=Int.tdiv_eq_ediv (a:=n.val+3373259426) (b:=6746518852)
 have q1:(Rng.w .i64 ((n.val+3373259426).tdiv 6746518852)).val=(n.val+3373259426).tdiv 6746518852:=by
  refine wi ?_ ?_<;>(split at ht<;>omega)
 have hm:=Int.mul_tdiv_add_tmod (n.val+3373259426) 6746518852
 have m1:(Rng.w .i64 ((n.val+3373259426).tmod 6746518852)).val=(n.val+3373259426).tmod 6746518852:=by
  refine wi ?_ ?_<;>(split at ht<;>omega)
 have z:((6746518852:Int)==0)=false:=rfl
 simp only [zal,zdz,Tr.get,ha,Bool.not_true,cfl,G_spec_l06Floor,F_spec_l06Floor,zfD,Tr.opt,Tr.get,e1,q1,m1,z]
 by_cases hc:(n.val+3373259426).tmod 6746518852<0
 ·have w1:(Rng.w .i64 ((n.val+3373259426).tdiv 6746518852-1)).val=(n.val+3373259426).tdiv 6746518852-1:=by
   refine wi ?_ ?_<;>(split at ht<;>omega)
  simp only [hc,decide_true,ctr,Option.isSome_some,w1]
  split at ht<;>omega
 ·simp only [hc,decide_false,cfl,ctr,Option.isSome_some,q1]
  split at ht<;>omega
theorem overlap_of {a b:Iv} (ha:ze a=true) (hb:ze b=true) (h1:a.lo.val<=b.hi.val) (h2:b.lo.val<=a.hi.val):zT a b=true:=by
 have oa:=(zca _).1 ha
 have ob:=(zca _).1 hb
 have m1:=max_l a.lo b.lo
 have m2:=min_l a.hi b.hi
 have hn:¬(zq a.lo b.lo).val>(zu a.hi b.hi).val:=by omega
 simp only [zT,zel,zcP,zeF,Tr.get,ha,hb,Bool.not_true,cfl,hn,decide_false]
theorem keepF_mem (x:Iv) (k':I64) (h1:k'.val<=(k1 x).val) (h2:zT (zU k') x=true) (h3:(k1 x).val<=1000):
  ∀(n:Nat) (k:I64),-1000<=k.val->k.val<=k'.val->k'.val-k.val<n->k'∈keepF x n k:=by
 intro n
 induction n with
 | zero=>intro k _ _ h;omega
 | succ n ih=>
  intro k hl hk hn
  have hd:decide (k.val<=(k1 x).val)=true:=by simp;omega
  have en:(Rng.w .i64 (k.val+1)).val=k.val+1:=wi (by omega) (by omega)
  simp only [keepF,hd,ctr,overlap_eq,turnI_eq]
  by_cases e:k.val=k'.val
  ·have e':k=k':=Rng.ext e
   subst e'
   simp only [h2,ctr]
   exact List.mem_cons_self ..
  ·have:=ih (.w .i64 (k.val+1)) (by omega) (by omega) (by omega)
   cases zT (zU k) x
   ·exact this
   ·exact List.mem_cons_of_mem _ this
theorem one_val:ze (zB ⟨1,rfl⟩)=true/\(zB ⟨1,rfl⟩).lo.val=4294967296/\(zB ⟨1,rfl⟩).hi.val=4294967296:=int_ok (n:=⟨1,rfl⟩) (by decide)
theorem mone_val:ze (zB ⟨-1,rfl⟩)=true/\(zB ⟨-1,rfl⟩).lo.val= -4294967296/\(zB ⟨-1,rfl⟩).hi.val= -4294967296:=int_ok (n:=⟨-1,rfl⟩) (by decide)
theorem hullF_in (t:I64):∀(L:List I64) (o:Iv),ze o=true->ze (hullF t L o)=true/\(hullF t L o).lo.val<=o.lo.val/\o.hi.val<=(hullF t L o).hi.val /\
  (∀k∈L,(turn4 t k).val=1->4294967296<=(hullF t L o).hi.val)/\(∀k∈L,(turn4 t k).val=3->(hullF t L o).lo.val <= -4294967296):=by
 intro L
 induction L with
 | nil=>intro o ho;exact ⟨ho,Int.le_refl _,Int.le_refl _,(fun k h=>by cases h),(fun k h=>by cases h)⟩
 | cons k L ih=>
  intro o ho
  simp only [hullF,hull_eq,integer_eq]
  by_cases c1:(turn4 t k).val=1
  ·have e1:((turn4 t k).val==1)=true:=by simp [c1]
   simp only [e1,ctr]
   have hv:=hull_in ho one_val.1
   obtain ⟨i1,i2,i3,i4,i5⟩:=ih _ hv.1
   have o1:=one_val.2.2
   refine ⟨i1,by omega,by omega,fun j hj h=>?_,fun j hj h=>?_⟩
   ·rcases List.mem_cons.1 hj with rfl|hj
    ·omega
    ·exact i4 j hj h
   ·rcases List.mem_cons.1 hj with rfl|hj
    ·omega
    ·exact i5 j hj h
  ·have e1:((turn4 t k).val==1)=false:=by simp [c1]
   simp only [e1,cfl]
   by_cases c3:(turn4 t k).val=3
   ·have e3:((turn4 t k).val==3)=true:=by simp [c3]
    simp only [e3,ctr]
    have hv:=hull_in ho mone_val.1
    obtain ⟨i1,i2,i3,i4,i5⟩:=ih _ hv.1
    have o1:=mone_val.2.1
    refine ⟨i1,by omega,by omega,fun j hj h=>?_,fun j hj h=>?_⟩
    ·rcases List.mem_cons.1 hj with rfl|hj
     ·omega
     ·exact i4 j hj h
    ·rcases List.mem_cons.1 hj with rfl|hj
     ·omega
     ·exact i5 j hj h
   ·have e3:((turn4 t k).val==3)=false:=by simp [c3]
    simp only [e3,cfl]
    obtain ⟨i1,i2,i3,i4,i5⟩:=ih _ ho
    refine ⟨i1,by omega,by omega,fun j hj h=>?_,fun j hj h=>?_⟩
    ·rcases List.mem_cons.1 hj with rfl|hj
     ·omega
     ·exact i4 j hj h
    ·rcases List.mem_cons.1 hj with rfl|hj
     ·omega
     ·exact i5 j hj h
theorem qt_ge {k a:Int} (h:fx a<=qt k):(0<=k/\a*1073741824<=k*7244019458077122843)\/(k<0/\a*1073741824<=k*7244019458077122842):=by
 have p1:=hp_lo
 have p2:=hp_hi
 by_cases hk:0<=k
 ·left;refine ⟨hk,zi_le.1 ?_⟩
  have z0:=zi_nn hk
  rw [zi_mul,zi_mul,show zi 1073741824=rat 1073741824 from rfl,show zi 7244019458077122843=rat 7244019458077122843 from rfl]
  unfold fx qt at h
  generalize zi k=z at *;generalize zi a=u at *;generalize hp=p at *
  exact zQ [u,z,p] (pn (kn 4611686018427387904 (sn h)) (kn 4611686018427387904 (mn z0 (sn p2))))
 ·right;refine ⟨by omega,zi_le.1 ?_⟩
  have z0:=zi_le.2 (show k<=0 by omega)
  rw [zi_0] at z0
  rw [zi_mul,zi_mul,show zi 1073741824=rat 1073741824 from rfl,show zi 7244019458077122842=rat 7244019458077122842 from rfl]
  unfold fx qt at h
  generalize zi k=z at *;generalize zi a=u at *;generalize hp=p at *
  exact zQ [u,z,p] (pn (kn 4611686018427387904 (sn h)) (kn 4611686018427387904 (mn (neg_nn z0) (sn p1))))
theorem qt_le {k b:Int} (h:qt k<=fx b):(0<=k/\k*7244019458077122842<=b*1073741824)\/(k<0/\k*7244019458077122843<=b*1073741824):=by
 have e:fx (-b)<=qt (-k):=by rw [zfQ,qt_neg];generalize fx b=u at *;generalize qt k=v at *;exact zQ [u,v] (sn h)
 have:=qt_ge e
 omega
theorem In.over06 {x:Re} {a:Iv} (h:In x a) {t:I64} (ht:0<=t.val/\t.val<=3):In (sin (x+qt t.val)) (zfi a t):=by
 have hs:=sin_in (x+qt t.val)
 rw [<- over_eq]
 unfold zaX
 rw [fits_eq,ring_eq]
 cases hf:zde a
 ·exact In.ring hs.1 hs.2
 simp only [Bool.not_true,cfl]
 have hfit:ze a=true/\(-1099511627776<=a.lo.val/\a.lo.val<=1099511627776)/\(-1099511627776<=a.hi.val/\a.hi.val<=1099511627776):=by
  simp only [zde,t_spec_l06Fits,Tr.get,zbM,zc2,zaV,zdr,ze5] at hf
  revert hf
  cases ze a<;>by_cases c1: -1099511627776<=a.lo.val/\a.lo.val<=1099511627776<;>by_cases c2: -1099511627776<=a.hi.val/\a.hi.val<=1099511627776<;>simp [c1,c2,ctr,cfl]
 obtain ⟨oa,⟨l1,l2⟩,⟨u1,u2⟩⟩:=hfit
 obtain ⟨h1,h2⟩:=h oa
 have ho:o0 a t=zV (zbf a.lo t) (zbf a.hi t):=by unfold o0;rw [hull_eq,circle_eq,circle_eq]
 have v1:=at_in a.lo t
 have v2:=at_in a.hi t
 have hv:=hull_in v1.1 v2.1
 rw [ho]
 obtain ⟨i1,i2,i3,i4,i5⟩:=hullF_in t (keepF a 1000 (k0 a)) _ hv.1
 have a1:=In.at (n:=a.lo) ht v1.1
 have a2:=In.at (n:=a.hi) ht v2.1
 have kb:=k_bd a
 have q0:(k0 a).val=(a.lo.val+3373259426)/6746518852-1:=by
  have qb:=quarter_bd a.lo
  unfold k0;rw [quarter_eq,wi (by omega) (by omega),quarter_all ⟨l1,l2⟩]
 have q1:(k1 a).val=(a.hi.val+3373259426)/6746518852+1:=by
  have qb:=quarter_bd a.hi
  unfold k1;rw [quarter_eq,wi (by omega) (by omega),quarter_all ⟨u1,u2⟩]
 have mem:∀j:Int,fx a.lo.val<=qt j->qt j<=fx a.hi.val->∃k:I64,k.val=j/\k∈keepF a 1000 (k0 a)/\(turn4 t k).val=(j+t.val)%4:=fun j j1 j2=>by
  have g1:=qt_ge j1
  have g2:=qt_le j2
  have jb: -200<=j/\j<=200:=by omega
  have ek:(Rng.w .i64 j).val=j:=wi (by omega) (by omega)
  refine ⟨.w .i64 j,ek,?_,?_⟩
  ·obtain ⟨t1,t2,t3⟩:=In.turn (k:= .w .i64 j) (by omega) (by omega)
   rw [ek] at t2 t3
   refine keepF_mem a _ (by omega) (overlap_of t1 oa (fx_le.1 (le_trans t2 j2)) (fx_le.1 (le_trans j1 t3))) (by omega) 1000 (k0 a) (by omega) (by omega) (by omega)
  ·unfold turn4;rw [ek];exact and4_eq (by omega) (by omega)
 intro _
 have mv:∀ {p q:Re},p<=q->∀j:Int,p+qt t.val<=qt j->p<=qt (j-t.val):=fun {p q} _ j hj=>by
  have e:=qt_add (j-t.val) t.val
  rw [show j-t.val+t.val=j by omega] at e
  rw [e] at hj
  generalize qt (j-t.val)=u at *;generalize qt t.val=v at *
  exact zQ [p,u,v] (sn hj)
 have mv':∀ {p:Re},∀j:Int,qt j<=p+qt t.val->qt (j-t.val)<=p:=fun {p} j hj=>by
  have e:=qt_add (j-t.val) t.val
  rw [show j-t.val+t.val=j by omega] at e
  rw [e] at hj
  generalize qt (j-t.val)=u at *;generalize qt t.val=v at *
  exact zQ [p,u,v] (sn hj)
 constructor
 ·rcases sin_bottom (add_le h1 (le_refl (qt t.val))) (add_le h2 (le_refl (qt t.val))) with c|c|⟨j,j4,j1,j2⟩
  ·exact le_trans (le_trans (fx_le.2 (Int.le_trans i2 hv.2.1)) a1.1) c
  ·exact le_trans (le_trans (fx_le.2 (Int.le_trans i2 hv.2.2.1)) a2.1) c
  ·obtain ⟨k,k1',k2,k3⟩:=mem (j-t.val) (mv (le_refl (fx a.lo.val)) j j1) (mv' j j2)
   have:=i5 k k2 (by omega)
   refine le_trans ?_ hs.1
   rw [<- fx_m1];exact fx_le.2 this
 ·rcases sin_top (add_le h1 (le_refl (qt t.val))) (add_le h2 (le_refl (qt t.val))) with c|c|⟨j,j4,j1,j2⟩
  ·exact le_trans c (le_trans a1.2 (fx_le.2 (Int.le_trans hv.2.2.2.1 i3)))
  ·exact le_trans c (le_trans a2.2 (fx_le.2 (Int.le_trans hv.2.2.2.2.1 i3)))
  ·obtain ⟨k,k1',k2,k3⟩:=mem (j-t.val) (mv (le_refl (fx a.lo.val)) j j1) (mv' j j2)
   have:=i4 k k2 (by omega)
   refine le_trans hs.2 ?_
   rw [<- fx_1];exact fx_le.2 this
theorem In.sin {x:Re} {a:Iv} (h:In x a):In (An.sin x) (zct a):=by
 have:=h.over06 (t:=⟨0,rfl⟩) (by decide)
 rw [show ((⟨0,rfl⟩:I64).val)=0 from rfl,qt_0,An.add_zero] at this
 simp only [zct,t_spec_SinI,Tr.get]
 exact this
theorem In.cos {x:Re} {a:Iv} (h:In x a):In (An.cos x) (zd3 a):=by
 have:=h.over06 (t:=⟨1,rfl⟩) (by decide)
 rw [show ((⟨1,rfl⟩:I64).val)=1 from rfl,sin_q1 x (by decide)] at this
 simp only [zd3,t_spec_CosI,Tr.get]
 exact this
end Go.Proofs.YtfcjhkkpbnobhaaGreat.Nc
namespace Go.Proofs.YtfcjhkkpbnobhaaGreat.Nc
open Go Go.Proofs.YtfcjhkkpbnobhaaGreat.An
open Go.Proofs.YtfcjhkkpbnobhaaGreat.Ev hiding mn zfw neg_eq sq_lt sub_eq
theorem divdown_neg {x y:I64} (hy:y.val<0) (h:(zF x y).b=true):(zF x y).a.val= -x.val*4294967296 / -y.val:=by
 have z0:(y.val==0)=false:=by simp;omega
 have z1:decide (y.val<0)=true:=by simpa using hy
 simp only [zF,zbo,Tr.get,ze3,z0,z1,ctr,cfl] at h ⊢
 cases h1:zG x
 ·rw [h1] at h;simp [ctr] at h
 cases h2:zG y
 ·rw [h1,h2] at h;simp [ctr,cfl] at h
 have bx:=ok_bd h1
 have by':=ok_bd h2
 have ex:(Rng.w .i64 (0-x.val)).val= -x.val:=by rw [wi (by omega) (by omega)];omega
 have ey:(Rng.w .i64 (0-y.val)).val= -y.val:=by rw [wi (by omega) (by omega)];omega
 rw [h1,h2] at h
 have hp:0 < -y.val:=by omega
 simp only [Bool.not_true,cfl,MD,ex,ey,hp,if_true] at h ⊢
 unfold narrow at h ⊢
 split at h
 ·rename_i hr
  rw [if_pos hr]
  rcases end_cases (.w .i64 (-x.val*4294967296 / -y.val)) true with e|⟨e,_⟩
  ·rw [e] at h;cases h
  ·rw [e];exact wi hr.1 hr.2
 ·have:(zat (.w .i64 0) false).b=false:=by simp only [zat,zcb,Tr.get,Bool.not_false,ctr]
  rw [this] at h;cases h
theorem divup_neg {x y:I64} (hy:y.val<0) (h:(zZ x y).b=true):(zZ x y).a.val= -(x.val*4294967296 / -y.val):=by
 simp only [zZ,zcJ,Tr.get] at h ⊢
 cases h1:zG x
 ·rw [h1] at h;simp [ctr] at h
 rw [h1] at h
 simp only [Bool.not_true,cfl] at h ⊢
 have hb:=ok_bd h1
 have e:=divdown_neg hy h
 have en:(Rng.w .i64 (0-x.val)).val= -x.val:=by rw [wi (by omega) (by omega)];omega
 rw [en,Int.neg_neg] at e
 rcases zeP (.w .i64 (0-x.val)) y with k|⟨c,k,kc⟩
 ·rw [k] at h;cases h
 ·have kb:=ok_bd kc
  rw [k] at e ⊢
  simp only at e ⊢
  rw [wi (by omega) (by omega)]
  omega
theorem divI_corner_neg {a b:Iv} (h0:b.hi.val<0) (h:ze (zC a b)=true):ze a=true/\ze b=true /\
  ∀x y:I64,(x=a.lo\/x=a.hi)->(y=b.lo\/y=b.hi)->(zC a b).lo.val <= -x.val*4294967296 / -y.val /\ -(x.val*4294967296 / -y.val)<=(zC a b).hi.val:=by
 have nw:∀ {P:Prop},ze zm=true->P:=fun h=>by rw [zcy] at h;cases h
 simp only [zC,zfJ,Tr.get] at h ⊢
 cases ha:ze a
 ·rw [ha] at h;exact nw h
 cases hb:ze b
 ·rw [ha,hb] at h;exact nw h
 have bb:=(zca _).1 hb
 have h0':b.lo.val<0:=by omega
 cases hz:zaT b ⟨0,rfl⟩
 case true=>rw [ha,hb,hz] at h;exact nw h
 simp only [ha,hb,hz,Bool.not_true,cfl] at h ⊢
 cases h1:(zF a.lo b.lo).b
 ·rw [h1] at h;exact nw h
 cases h2:(zZ a.lo b.lo).b
 ·rw [h1,h2] at h;exact nw h
 cases h3:(zF a.lo b.hi).b
 ·rw [h1,h2,h3] at h;exact nw h
 cases h4:(zZ a.lo b.hi).b
 ·rw [h1,h2,h3,h4] at h;exact nw h
 cases h5:(zF a.hi b.lo).b
 ·rw [h1,h2,h3,h4,h5] at h;exact nw h
 cases h6:(zZ a.hi b.lo).b
 ·rw [h1,h2,h3,h4,h5,h6] at h;exact nw h
 cases h7:(zF a.hi b.hi).b
 ·rw [h1,h2,h3,h4,h5,h6,h7] at h;exact nw h
 cases h8:(zZ a.hi b.hi).b
 ·rw [h1,h2,h3,h4,h5,h6,h7,h8] at h;exact nw h
 simp only [h1,h2,h3,h4,h5,h6,h7,h8,Bool.not_true,cfl] at h ⊢
 refine ⟨trivial,trivial,?_⟩
 have v1:=divdown_neg h0' h1
 have v2:=divup_neg h0' h2
 have v3:=divdown_neg h0 h3
 have v4:=divup_neg h0 h4
 have v5:=divdown_neg h0' h5
 have v6:=divup_neg h0' h6
 have v7:=divdown_neg h0 h7
 have v8:=divup_neg h0 h8
 generalize (zF a.lo b.lo).a=d1 at *
 generalize (zF a.lo b.hi).a=d2 at *
 generalize (zF a.hi b.lo).a=d3 at *
 generalize (zF a.hi b.hi).a=d4 at *
 generalize (zZ a.lo b.lo).a=u1 at *
 generalize (zZ a.lo b.hi).a=u2 at *
 generalize (zZ a.hi b.lo).a=u3 at *
 generalize (zZ a.hi b.hi).a=u4 at *
 have m1:=min_l ⟨1152921504606846976,rfl⟩ d1
 have m2:=min_l (zu ⟨1152921504606846976,rfl⟩ d1) d2
 have m3:=min_l (zu (zu ⟨1152921504606846976,rfl⟩ d1) d2) d3
 have m4:=min_l (zu (zu (zu ⟨1152921504606846976,rfl⟩ d1) d2) d3) d4
 have n1:=max_l ⟨-1152921504606846976,rfl⟩ u1
 have n2:=max_l (zq ⟨-1152921504606846976,rfl⟩ u1) u2
 have n3:=max_l (zq (zq ⟨-1152921504606846976,rfl⟩ u1) u2) u3
 have n4:=max_l (zq (zq (zq ⟨-1152921504606846976,rfl⟩ u1) u2) u3) u4
 generalize zu (zu (zu (zu ⟨1152921504606846976,rfl⟩ d1) d2) d3) d4=lo at *
 generalize zq (zq (zq (zq ⟨-1152921504606846976,rfl⟩ u1) u2) u3) u4=hi at *
 by_cases hm: -1152921504606846976<lo.val/\lo.val<=hi.val/\hi.val<1152921504606846976
 ·rw [zdb hm]
  simp only
  rintro x y (rfl|rfl) (rfl|rfl)
  ·omega
  ·omega
  ·omega
  ·omega
 ·rw [make_no hm] at h;exact nw h
theorem divI_two {a b:Iv} (h:ze (zC a b)=true):0<b.lo.val\/b.hi.val<0:=by
 have nw:∀ {P:Prop},ze zm=true->P:=fun h=>by rw [zcy] at h;cases h
 simp only [zC,zfJ,Tr.get] at h
 cases ha:ze a
 ·rw [ha] at h;exact nw h
 cases hb:ze b
 ·rw [ha,hb] at h;exact nw h
 have ob:=(zca _).1 hb
 have hz:zaT b ⟨0,rfl⟩=decide (b.lo.val<=0/\0<=b.hi.val):=by simp only [zaT,zcA,Tr.get,ze5]
 by_cases hd:b.lo.val<=0/\0<=b.hi.val
 ·rw [ha,hb,hz,decide_eq_true hd] at h;exact nw h
 ·omega
theorem In.div {x y:Re} {a b:Iv} (h:In x a) (k:In y b):In (x/y) (zC a b):=fun ok=>by
 rcases divI_two ok with h0|h0
 ·exact h.div_pos k h0 ok
 obtain ⟨o1,o2,hc⟩:=divI_corner_neg h0 ok
 obtain ⟨h1,h2⟩:=h o1
 obtain ⟨k1,k2⟩:=k o2
 have b':=(zca _).1 o2
 have y0:=lt_of_le_of_lt k2 (fx_neg' h0)
 have n1: -x<=fx (-a.lo.val):=by rw [zfQ];generalize fx a.lo.val=u at *;exact zQ [x,u] (sn h1)
 have n2:fx (-a.hi.val) <= -x:=by rw [zfQ];generalize fx a.hi.val=u at *;exact zQ [x,u] (sn h2)
 have m1: -y<=fx (-b.lo.val):=by rw [zfQ];generalize fx b.lo.val=u at *;exact zQ [y,u] (sn k1)
 have m2:fx (-b.hi.val) <= -y:=by rw [zfQ];generalize fx b.hi.val=u at *;exact zQ [y,u] (sn k2)
 have i1:=inv_le (neg_ne y0) m1
 have i2:=inv_le (fx_p (show 0 < -b.hi.val by omega)) m2
 have p0:∀v:I64,(v=b.lo\/v=b.hi)->0 < -v.val:=by rintro v (rfl|rfl)<;>omega
 have lo:∀u v:I64,(u=a.lo\/u=a.hi)->(v=b.lo\/v=b.hi)->fx (zC a b).lo.val<=fx (-u.val)*(fx (-v.val))⁻¹:=fun u v hu hv=>le_trans (fx_le.2 (hc u v hu hv).1) (fx_div_lo (p0 v hv))
 have hi:∀u v:I64,(u=a.lo\/u=a.hi)->(v=b.lo\/v=b.hi)->fx (-u.val)*(fx (-v.val))⁻¹<=fx (zC a b).hi.val:=fun u v hu hv=>by
  have:=fx_div_hi (x:= -u.val) (p0 v hv)
  rw [Int.neg_neg] at this
  exact le_trans this (fx_le.2 (hc u v hu hv).2)
 rw [<- div_neg x y (ne_of_lt y0)]
 exact ⟨real_lo n2 n1 i1 i2 (lo _ _ (.inr rfl) (.inl rfl)) (lo _ _ (.inr rfl) (.inr rfl)) (lo _ _ (.inl rfl) (.inl rfl)) (lo _ _ (.inl rfl) (.inr rfl)),
  real_hi n2 n1 i1 i2 (hi _ _ (.inr rfl) (.inl rfl)) (hi _ _ (.inr rfl) (.inr rfl)) (hi _ _ (.inl rfl) (.inl rfl)) (hi _ _ (.inl rfl) (.inr rfl))⟩
theorem narrow_b {v:Int} (h:(narrow v).b=true):(narrow v).a.val=v /\ -9223372036854775808<=v/\v<=9223372036854775807:=by
 unfold narrow at h ⊢
 split at h
 ·rename_i hr;rw [if_pos hr];exact ⟨wi hr.1 hr.2,hr⟩
 ·cases h
theorem quo_lo' {a b:Int} (hb:0<b):fx (a*4294967296/b)<=zi a/zi b:=by
 have zb:0<zi b:=by rw [<- zi_0];exact zi_lt.2 hb
 rw [le_div zb]
 have:=fx_floor (p:=a*4294967296) hb
 unfold fx
 rw [zi_mul a] at this
 generalize zi (a*4294967296/b)=q at *;generalize zi a=u at *;generalize zi b=v at *
 rw [show zi 4294967296=rat 4294967296 from rfl] at this
 exact zQ [q,u,v] (kn (1/4294967296) (sn this))
theorem quo_hi' {a b:Int} (hb:0<b):zi a/zi b<=fx (a*4294967296/b+1):=by
 have zb:0<zi b:=by rw [<- zi_0];exact zi_lt.2 hb
 rw [div_le zb]
 have h1:a*4294967296<=(a*4294967296/b+1)*b:=by have:=Int.lt_ediv_add_one_mul_self (a*4294967296) hb;omega
 have:=zi_le.2 h1
 unfold fx
 rw [zi_mul a,zi_mul _ b] at this
 generalize zi (a*4294967296/b+1)=q at *;generalize zi a=u at *;generalize zi b=v at *
 rw [show zi 4294967296=rat 4294967296 from rfl] at this
 exact zQ [q,u,v] (kn (1/4294967296) (sn this))
theorem quo_eq' {a b:Int} (hb:0<b) (h:a*4294967296%b=0):zi a/zi b<=fx (a*4294967296/b):=by
 have zb:0<zi b:=by rw [<- zi_0];exact zi_lt.2 hb
 rw [div_le zb]
 have h1:a*4294967296<=(a*4294967296/b)*b:=by
  have:=Int.mul_ediv_add_emod (a*4294967296) b
  rw [h,Int.mul_comm] at this;omega
 have:=zi_le.2 h1
 unfold fx
 rw [zi_mul a,zi_mul _ b] at this
 generalize zi (a*4294967296/b)=q at *;generalize zi a=u at *;generalize zi b=v at *
 rw [show zi 4294967296=rat 4294967296 from rfl] at this
 exact zQ [q,u,v] (kn (1/4294967296) (sn this))
theorem end_b {a:I64} {c:Bool} (h:(zat a c).b=true):c=true/\zat a c=⟨a,true⟩/\zG a=true:=by
 rcases end_cases a c with e|⟨e,k⟩
 ·rw [e] at h;cases h
 ·refine ⟨?_,e,k⟩
  cases c
  ·rw [end_no] at e;cases e
  ·rfl
theorem In.quotient {a b:I64} (hb:0<b.val):In (zi a.val/zi b.val) (zau a b):=by
 rw [q_F_spec]
 have hn:¬b.val<0:=by omega
 unfold QQ
 rw [if_neg hn]
 unfold QU
 cases h1:(FF a b).b
 ·exact In.whole _
 cases h2:(FC a b).b
 ·exact In.whole _
 simp only [cond_true]
 have f1:fx (FF a b).a.val<=zi a.val/zi b.val:=by
  unfold FF at h1 ⊢
  obtain ⟨e1,e2,e3⟩:=end_b h1
  rw [e2]
  simp only [MD,hb,if_true] at e1 ⊢
  have:=narrow_b e1
  rw [this.1]
  exact quo_lo' hb
 have f2:zi a.val/zi b.val<=fx (FC a b).a.val:=by
  unfold FC at h2 ⊢
  simp only [hb,if_true] at h2 ⊢
  cases hq:(narrow (a.val*4294967296/b.val)).b
  ·rw [hq] at h2;simp at h2
  have nb:=narrow_b hq
  simp only [hq,if_true] at h2 ⊢
  by_cases hz:a.val*4294967296%b.val=0
  ·simp only [hz,if_true] at h2 ⊢
   obtain ⟨e1,e2,e3⟩:=end_b h2
   rw [e2,nb.1]
   exact quo_eq' hb hz
  ·simp only [hz,if_false] at h2 ⊢
   obtain ⟨e1,e2,e3⟩:=end_b h2
   rw [e2]
   have ob:=ok_bd e3
   rw [nb.1] at ob ⊢
   by_cases hx:a.val*4294967296/b.val=9223372036854775807
   ·rw [hx] at ob;exact absurd ob (by decide)
   ·rw [wi (by omega) (by omega)]
    exact quo_hi' hb
 intro ok
 by_cases hm: -1152921504606846976<(FF a b).a.val/\(FF a b).a.val<=(FC a b).a.val/\(FC a b).a.val<1152921504606846976
 ·rw [zdb hm];exact ⟨f1,f2⟩
 ·rw [make_no hm,zcy] at ok;cases ok
theorem In.quot {n:I64} (q:Nat) (r:Rat) (hn:n.val=((q+1:Nat):Int):=by kernel_rfl) (hr:1/((q+1:Nat):Rat)=r:=by kernel_rfl):In (rat r) (zau ⟨1,rfl⟩ n):=by
 have:=In.quotient (a:=⟨1,rfl⟩) (b:=n) (by omega)
 rw [hn,zi_nat,show zi ((⟨1,rfl⟩:I64)).val=1 from rfl] at this
 have e:(1:Re)/rat ((q+1:Nat):Rat)=rat r:=by
  rw [<- hr]
  have i:=inv_nat q
  have p:0<rat ((q+1:Nat):Rat):=nat_p (Nat.succ_pos q)
  refine eq_of_mul (ne_of_gt p) ?_
  rw [div_mul (ne_of_gt p),An.mul_comm,i]
 rwa [e] at this
theorem In.halve {x:Re} {a:Iv} (h:In x a):In (x/(1+An.sqrt (1+x*x))) (zcM a):=by
 simp only [zcM,zfC,Tr.get]
 exact h.div (In.add In.one (In.sqrt (In.add In.one h.sqr)))
theorem In.arcS {x:Re} {a:Iv} (h:In x a):In (atan x) (zc0 a):=by
 simp only [zc0,zeY,Tr.get,zc6]
 cases hi:zaU a ⟨⟨(-1073741824),rfl⟩,⟨1073741824,rfl⟩⟩
 ·exact In.whole _
 simp only [Bool.not_true,cfl]
 have hin:ze a=true /\ -1073741824<=a.lo.val/\a.hi.val<=1073741824:=by
  have h2:ze ⟨⟨-1073741824,rfl⟩,⟨1073741824,rfl⟩⟩=true:=(zca _).2 (by decide)
  simp only [zaU,zdY,Tr.get,h2,Bool.not_true,cfl] at hi
  revert hi
  cases ze a<;>by_cases h1: -1073741824<=a.lo.val<;>simp [h1,ctr,cfl]
 obtain ⟨o,k1,k2⟩:=hin
 have hx:An.abs x<=rat (1/4):=by
  obtain ⟨h1,h2⟩:=h o
  have l1:=fx_le.2 k1
  have l2:=fx_le.2 k2
  have e:fx 1073741824=rat (1/4):=(show rat ((1073741824:Int):Rat)*rat (1/4294967296)=rat (1/4) from An.ring [])
  rw [zfQ,e] at l1
  rw [e] at l2
  exact abs_le (le_trans l1 h1) (le_trans h2 l2)
 have e:=atan_horner hx
 have:=(h.mul (In.sub (In.quot (n:=⟨1,rfl⟩) 0 (1/1)) (In.mul h.sqr (In.sub (In.quot (n:=⟨3,rfl⟩) 2 (1/3)) (In.mul h.sqr (In.sub (In.quot (n:=⟨5,rfl⟩) 4 (1/5)) (In.mul h.sqr (In.sub (In.quot (n:=⟨7,rfl⟩) 6 (1/7)) (In.mul h.sqr (In.sub (In.quot (n:=⟨9,rfl⟩) 8 (1/9)) (In.mul h.sqr (In.sub (In.quot (n:=⟨11,rfl⟩) 10 (1/11)) (In.mul h.sqr (In.sub (In.quot (n:=⟨13,rfl⟩) 12 (1/13)) (In.mul h.sqr (In.sub (In.quot (n:=⟨15,rfl⟩) 14 (1/15)) (In.mul h.sqr (In.sub (In.quot (n:=⟨17,rfl⟩) 16 (1/17)) (In.mul h.sqr (In.sub (In.quot (n:=⟨19,rfl⟩) 18 (1/19)) (In.mul h.sqr (In.quot (n:=⟨21,rfl⟩) 20 (1/21))))))))))))))))))))))).add (In.tiny e)
 generalize x*(rat (1/1)-x*x*(rat (1/3)-x*x*(rat (1/5)-x*x*(rat (1/7)-x*x*(rat (1/9)-x*x*(rat (1/11)-x*x*(rat (1/13)-x*x*(rat (1/15)-x*x*(rat (1/17)-x*x*(rat (1/19)-x*x*rat (1/21)))))))))))=u at *;generalize atan x=s at *
 rwa [show u+(s-u)=s from An.ring [u,s]] at this
theorem In.core {x:Re} {a:Iv} (h:In x a):In (atan x) (zbU a):=by
 simp only [zbU,t_spec_l07Core,Tr.get]
 have:=h.halve.halve.arcS.dbl.dbl
 rwa [<- atan_half,<- atan_half] at this
theorem atan_inv {x:Re} (h:0<x):atan x=hp-atan (1/x):=by
 have c:=atan_cos (1/x)
 have hq:0<1/x:=div_p (qp 1) h
 have p0:0<atan (1/x):=by
  have h2:=atan_mono (le_of_lt hq)
  rw [atan_zero] at h2
  rcases le_iff.1 h2 with h3|h3
  ·exact h3
  ·have:=atan_sc (1/x)
   rw [<- h3,sin_zero,cos_zero,An.mul_one] at this
   exact absurd (this▸hq) (lt_irrefl _)
 have p1:=atan_lt (1/x)
 refine (atan_unique ?_ ?_ ?_).symm
 ·generalize atan (1/x)=a at *;exact zec [a,hp] (ppn (sp p1) (le_of_lt hp_p))
 ·generalize atan (1/x)=a at *;exact zec [a,hp] p0
 ·rw [sin_hp_sub,cos_hp_sub,atan_sc]
  have e:=div_mul (x:=1) (ne_of_gt h)
  generalize cos (atan (1/x))=d at *;generalize 1/x=q at *
  exact eq_by [x,q,d] (congrArg (fun t=> -(d*t)) e: -(d*(q*x))= -(d*1))
theorem quarter_val1:za2.lo.val= -6746518853/\za2.hi.val=6746518853/\ze za2=true:=by
 have e:za2=⟨⟨-6746518853,rfl⟩,⟨6746518853,rfl⟩⟩:=by kernel_rfl
 rw [e];exact ⟨rfl,rfl,(zca _).2 (by decide)⟩
theorem hp_fx:hp<=fx 6746518853:=by
 have:=(turn_real (k:=1) (by decide) (by decide)).2
 rw [qt_1] at this
 exact this
theorem In.quarter {x:Re} (h1: -hp<=x) (h2:x<=hp):In x za2:=fun _=>by
 rw [quarter_val1.1,quarter_val1.2.1,zfQ]
 have:=hp_fx
 generalize fx 6746518853=u at *
 exact ⟨zQ [x,u,hp] (pn (sn this) (sn h1)),le_trans h2 this⟩
theorem atan_bd (x:Re): -hp<=atan x/\atan x<=hp:=⟨le_of_lt (atan_gt x),le_of_lt (atan_lt x)⟩
theorem In.atan_pos {n:I64} (h:0<=n.val):In (atan (fx n.val)) (zcj n)/\In (atan (fx n.val)) (zcQ n)/\zev n=true:=by
 have hn:decide (n.val<0)=false:=by simp;omega
 have q:=In.quarter (atan_bd (fx n.val)).1 (atan_bd (fx n.val)).2
 simp only [zcj,zeL,zcQ,zen,zev,Tr.get,Tr.opt,hn,cfl]
 cases zbb n
 ·exact ⟨q,q,rfl⟩
 simp only [Bool.not_true,cfl]
 by_cases hg:n.val>4294967296
 ·simp only [hg,decide_true,ctr]
  have:In (atan (fx n.val)) (zO (zU ⟨1,rfl⟩) (zbU (zC (zB ⟨1,rfl⟩) (zo n)))):=by
   rw [atan_inv (fx_p (show 0<n.val by omega))]
   have t:=In.turn' (k:=⟨1,rfl⟩) (by decide) (by decide)
   rw [show ((⟨1,rfl⟩:I64)).val=1 from rfl,qt_1] at t
   exact t.sub (In.one.div In.point).core
  exact ⟨this,this,rfl⟩
 ·simp only [hg,decide_false,cfl]
  exact ⟨In.point.core,In.point.core,rfl⟩
theorem In.atanAt {n:I64}:In (atan (fx n.val)) (zcj n):=by
 by_cases h:0<=n.val
 ·exact (In.atan_pos h).1
 have hn:decide (n.val<0)=true:=by simp;omega
 have q:=In.quarter (atan_bd (fx n.val)).1 (atan_bd (fx n.val)).2
 simp only [zcj,zeL,Tr.get,hn,ctr]
 cases hf:zbb n
 ·exact q
 have hb:=(fix_iff n).1 hf
 have en:(Rng.w .i64 (0-n.val)).val= -n.val:=by rw [wi (by omega) (by omega)];omega
 obtain ⟨_,h2,h3⟩:=In.atan_pos (n:= .w .i64 (0-n.val)) (by rw [en];omega)
 rw [en,zfQ,atan_neg] at h2
 simp only [Bool.not_true,cfl,h3,ctr]
 have:=h2.neg
 rwa [show - - atan (fx n.val)=atan (fx n.val) from by generalize atan (fx n.val)=u;exact An.ring [u]] at this
theorem In.atan {x:Re} {a:Iv} (h:In x a):In (An.atan x) (zac a):=by
 rw [atanI_spec,siw_eq]
 cases ha:ze a
 ·exact In.quarter (atan_bd x).1 (atan_bd x).2
 simp only [Bool.not_true,cfl]
 obtain ⟨h1,h2⟩:=h ha
 exact In.between (In.atanAt.hull_l) (In.atanAt.hull_r) (atan_mono h1) (atan_mono h2)
theorem In.dirAt {y x:I64}:In (dir (fx y.val) (fx x.val)) (zJ y x):=by
 rw [<- dirAt_eq]
 simp only [zW,zdM,Tr.get,fix_eq,atanI_eq,divI_F,at_eq,Ev.sub_eq,add_eq,turnI_eq,zbX,zc6]
 cases hy:zbb y
 ·exact In.whole _
 cases hx:zbb x
 ·exact In.whole _
 have by':=(fix_iff y).1 hy
 have bx:=(fix_iff x).1 hx
 have ay:=abs_val y (by omega)
 have ax:=abs_val x (by omega)
 have p:∀n:I64,In (fx n.val) (zo n):=fun n=>by simp only [zo,zfE,Tr.get];exact In.point
 have t1:=In.turn' (k:=⟨1,rfl⟩) (by decide) (by decide)
 have tm1:=In.turn' (k:=⟨-1,rfl⟩) (by decide) (by decide)
 have t2:=In.turn' (k:=⟨2,rfl⟩) (by decide) (by decide)
 have tm2:=In.turn' (k:=⟨-2,rfl⟩) (by decide) (by decide)
 rw [show ((⟨1,rfl⟩:I64)).val=1 from rfl,qt_1] at t1
 rw [show ((⟨-1,rfl⟩:I64)).val= -1 from rfl,qt_neg,qt_1] at tm1
 rw [show ((⟨2,rfl⟩:I64)).val=2 from rfl,show qt 2=pi from rfl] at t2
 have q2:qt (-2)= -pi:=qt_neg 2
 rw [show ((⟨-2,rfl⟩:I64)).val= -2 from rfl,q2] at tm2
 have key:¬(y.val=0/\x.val=0)->In (dir (fx y.val) (fx x.val)) (bif decide ((zbm y).val>(zbm x).val) then (bif decide (y.val<0) then zO (zU ⟨-1,rfl⟩) (zac (zC (zo x) (zo y))) else zO (zU ⟨1,rfl⟩) (zac (zC (zo x) (zo y))))
   else (bif decide (x.val>0) then zac (zC (zo y) (zo x)) else (bif decide (y.val<0) then zak (zac (zC (zo y) (zo x))) (zU ⟨-2,rfl⟩) else zak (zac (zC (zo y) (zo x))) (zU ⟨2,rfl⟩)))):=fun hz=>by
  by_cases c:(zbm y).val>(zbm x).val
  ·simp only [c,decide_true,ctr]
   rw [ax,ay] at c
   by_cases n:y.val<0
   ·simp only [n,decide_true,ctr]
    rw [dir_down (fx_neg' n)]
    exact tm1.sub ((p x).div (p y)).atan
   ·simp only [n,decide_false,cfl]
    rw [dir_up (fx_p (show 0<y.val by split at c<;>omega))]
    exact t1.sub ((p x).div (p y)).atan
  ·simp only [c,decide_false,cfl]
   rw [ax,ay] at c
   by_cases px:x.val>0
   ·simp only [px,decide_true,ctr]
    rw [dir_right (fx_p px)]
    exact ((p y).div (p x)).atan
   ·simp only [px,decide_false,cfl]
    have nx:x.val<0:=by split at c<;>split at c<;>omega
    by_cases n:y.val<0
    ·simp only [n,decide_true,ctr]
     rw [dir_left' (fx_neg' nx) (fx_neg' n)]
     exact ((p y).div (p x)).atan.add tm2
    ·simp only [n,decide_false,cfl]
     rw [dir_left (fx_neg' nx) (fx_nn (by omega))]
     exact ((p y).div (p x)).atan.add t2
 simp only [Bool.not_true,cfl]
 by_cases y0:y.val=0
 ·have ey:(y.val==0)=true:=by simp [y0]
  by_cases x0:x.val=0
  ·have ex:(x.val==0)=true:=by simp [x0]
   simp only [ey,ex,ctr];exact In.whole _
  ·have ex:(x.val==0)=false:=by simp [x0]
   simp only [ey,ex,ctr,cfl]
   exact key (by omega)
 ·have ey:(y.val==0)=false:=by simp [y0]
  simp only [ey,cfl]
  exact key (by omega)
theorem In.dir {y x:Re} {b a:Iv} (h:In y b) (k:In x a):In (An.dir y x) (zcv b a):=by
 simp only [zcv,zem,Tr.get,siw_eq,zc6]
 cases hb:ze b
 ·exact In.whole _
 cases ha:ze a
 ·exact In.whole _
 have ob:=(zca _).1 hb
 have oa:=(zca _).1 ha
 obtain ⟨h1,h2⟩:=h hb
 obtain ⟨k1,k2⟩:=k ha
 have hz:∀c:Iv,ze c=true->zfV c ⟨0,rfl⟩=decide (c.lo.val<=0/\0<=c.hi.val):=fun c hc=>by
  simp only [zfV,t_spec_HasI,zaT,zcA,Tr.get,ze5,hc,Bool.not_true,cfl]
 simp only [Bool.not_true,cfl,hz b hb,hz a ha]
 have key:¬(b.lo.val<=0/\0<=b.hi.val/\a.lo.val<=0/\0<=a.hi.val)->¬(a.lo.val<0/\b.lo.val<0/\0<=b.hi.val)->
   In (An.dir y x) (zV (zV (zJ b.lo a.lo) (zJ b.lo a.hi)) (zV (zJ b.hi a.lo) (zJ b.hi a.hi))):=fun c1 c2=>by
  have cz:∀n:Int,(fx n<=0↔n<=0)/\(0<=fx n↔0<=n)/\(fx n<0↔n<0):=fun n=>by
   have e:=fx_0
   refine ⟨?_,?_,?_⟩<;>rw [<- e]
   ·exact fx_le
   ·exact fx_le
   ·exact fx_lt
  obtain ⟨_,⟨u,v,hu,hv,e1⟩,⟨u',v',hu',hv',e2⟩⟩:=dir_box k1 k2 h1 h2
   (fun c=>c1 ⟨(cz _).1.1 c.1,(cz _).2.1.1 c.2.1,(cz _).1.1 c.2.2.1,(cz _).2.1.1 c.2.2.2⟩)
   (fun c=>c2 ⟨(cz _).2.2.1 c.1,(cz _).2.2.1 c.2.1,(cz _).2.1.1 c.2.2⟩)
  have mem:∀u v,(u=fx a.lo.val\/u=fx a.hi.val)->(v=fx b.lo.val\/v=fx b.hi.val)->In (An.dir v u) (zV (zV (zJ b.lo a.lo) (zJ b.lo a.hi)) (zV (zJ b.hi a.lo) (zJ b.hi a.hi))):=by
   rintro u v (rfl|rfl) (rfl|rfl)
   ·exact In.dirAt.hull_l.hull_l
   ·exact In.dirAt.hull_l.hull_r
   ·exact In.dirAt.hull_r.hull_l
   ·exact In.dirAt.hull_r.hull_r
  exact In.between (mem u' v' hu' hv') (mem u v hu hv) e2 e1
 by_cases b0:b.lo.val<=0/\0<=b.hi.val
 ·simp only [b0,and_self,decide_true,ctr]
  by_cases a0:a.lo.val<=0/\0<=a.hi.val
  ·simp only [a0,and_self,decide_true,ctr];exact In.whole _
  ·simp only [a0,decide_false,cfl]
   by_cases c1:a.lo.val<0
   ·simp only [c1,decide_true,ctr]
    by_cases c2:b.lo.val<0
    ·have c3:b.hi.val>=0:=b0.2
     simp only [c2,c3,decide_true,ctr];exact In.whole _
    ·simp only [c2,decide_false,cfl];exact key (by omega) (by omega)
   ·simp only [c1,decide_false,cfl];exact key (by omega) (by omega)
 ·simp only [b0,decide_false,cfl]
  by_cases c1:a.lo.val<0
  ·simp only [c1,decide_true,ctr]
   by_cases c2:b.lo.val<0
   ·by_cases c3:b.hi.val>=0
    ·simp only [c2,c3,decide_true,ctr];exact In.whole _
    ·simp only [c2,c3,decide_true,decide_false,ctr,cfl];exact key (by omega) (by omega)
   ·simp only [c2,decide_false,cfl];exact key (by omega) (by omega)
  ·simp only [c1,decide_false,cfl];exact key (by omega) (by omega)
theorem In.norm {x y z:Re} {v:Vec} (hx:In x v.x) (hy:In y v.y) (hz:In z v.z):In (An.sqrt (x*x+y*y+z*z)) (zdg v):=by
 simp only [zdg,t_spec_NormV,Tr.get,siw_eq,zc6,ends_eq]
 cases ox:ze v.x
 ·exact In.whole _
 cases oy:ze v.y
 ·exact In.whole _
 cases oz:ze v.z
 ·exact In.whole _
 simp only [Bool.not_true,cfl,abs_make ox,abs_make oy,abs_make oz]
 have ex:=Nc.ends_val ox
 have ey:=Nc.ends_val oy
 have ez:=Nc.ends_val oz
 have jx:=hx.ends ox
 have jy:=hy.ends oy
 have jz:=hz.ends oz
 generalize (zL v.x).a=x1 at *
 generalize (zL v.x).b=x2 at *
 generalize (zL v.y).a=y1 at *
 generalize (zL v.y).b=y2 at *
 generalize (zL v.z).a=z1 at *
 generalize (zL v.z).b=z2 at *
 obtain ⟨a1,a2,a3,a4⟩:=sum_spec (x:=x1) (y:=y1) (z:=z1) (by omega) (by omega) (by omega)
 obtain ⟨b1,b2,b3,b4⟩:=sum_spec (x:=x2) (y:=y2) (z:=z2) (by omega) (by omega) (by omega)
 obtain ⟨r0,r1,r2⟩:=root_mk a2 (by omega)
 obtain ⟨q0,q1,q2⟩:=root_mk b2 (by omega)
 have hle:sq3 x1 y1 z1<=sq3 x2 y2 z2:=by
  have k1:=sq_mono ex.1 ex.2.2.2.2.2
  have k2:=sq_mono ey.1 ey.2.2.2.2.2
  have k3:=sq_mono ez.1 ez.2.2.2.2.2
  unfold sq3;omega
 have hR:(zt (mkW (sq3 x1 y1 z1))).val<=(zt (mkW (sq3 x2 y2 z2))).val:=by
  by_cases hh:(zt (mkW (sq3 x1 y1 z1))).val<=(zt (mkW (sq3 x2 y2 z2))).val
  ·exact hh
  ·have:=sq_mono (a:=(zt (mkW (sq3 x2 y2 z2))).val+1) (b:=(zt (mkW (sq3 x1 y1 z1))).val) (by omega) (by omega)
   omega
 have hQ:(zt (mkW (sq3 x2 y2 z2))).val<=2305843009213693952:=Ev.sq_lt q0 (by decide) (by omega)
 -- the true length
 have sqe:∀t:Re,t*t=An.abs t*An.abs t:=fun t=>(abs_sq t).symm
 have lo:zi (sq3 x1 y1 z1)*rat (1/18446744073709551616)<=x*x+y*y+z*z:=by
  have e1:=mul_le (fx_nn ex.1) jx.1 (fx_nn ex.1) jx.1
  have e2:=mul_le (fx_nn ey.1) jy.1 (fx_nn ey.1) jy.1
  have e3:=mul_le (fx_nn ez.1) jz.1 (fx_nn ez.1) jz.1
  rw [fx_sq,abs_sq] at e1 e2 e3
  unfold sq3
  rw [zi_add,zi_add]
  generalize zi (x1.val*x1.val)=p at *;generalize zi (y1.val*y1.val)=q at *;generalize zi (z1.val*z1.val)=r at *
  exact zQ [x,y,z,p,q,r] (pn (pn (sn e1) (sn e2)) (sn e3))
 have hi:x*x+y*y+z*z<=zi (sq3 x2 y2 z2)*rat (1/18446744073709551616):=by
  have e1:=mul_le (zc7 x) jx.2 (zc7 x) jx.2
  have e2:=mul_le (zc7 y) jy.2 (zc7 y) jy.2
  have e3:=mul_le (zc7 z) jz.2 (zc7 z) jz.2
  rw [fx_sq,abs_sq] at e1 e2 e3
  unfold sq3
  rw [zi_add,zi_add]
  generalize zi (x2.val*x2.val)=p at *;generalize zi (y2.val*y2.val)=q at *;generalize zi (z2.val*z2.val)=r at *
  exact zQ [x,y,z,p,q,r] (pn (pn (sn e1) (sn e2)) (sn e3))
 have s0:0<=x*x+y*y+z*z:=pn (pn (sqn x) (sqn y)) (sqn z)
 have down:∀r:Int,0<=r->r*r<=sq3 x1 y1 z1->fx r<=An.sqrt (x*x+y*y+z*z):=fun r h0 hr=>by
  refine sq_le (An.sqrt_nn _) ?_
  rw [An.sqrt_sq s0,fx_sq]
  exact le_trans (zk_le hr) lo
 have up:∀r:Int,0<=r->sq3 x2 y2 z2<=r*r->An.sqrt (x*x+y*y+z*z)<=fx r:=fun r h0 hr=>by
  refine sq_le (fx_nn h0) ?_
  rw [An.sqrt_sq s0,fx_sq]
  exact le_trans hi (zk_le hr)
 simp only [a1,b1,mul_spec]
 generalize hR1:zt (mkW (sq3 x1 y1 z1))=R1 at *
 generalize hR2:zt (mkW (sq3 x2 y2 z2))=R2 at *
 have w1:(Rng.w .i64 R1.val).val=R1.val:=wi (by omega) (by omega)
 have w2:(Rng.w .i64 R2.val).val=R2.val:=wi (by omega) (by omega)
 have w3:(Rng.w .i64 (R2.val+1)).val=R2.val+1:=wi (by omega) (by omega)
 rw [w2]
 have q3:=Int.mul_nonneg q0 q0
 have c2:R2.val*R2.val<=2305843009213693952*2305843009213693952:=Int.mul_le_mul hQ hQ q0 (by decide)
 have wm:=wv_mkW (v:=R2.val*R2.val) (by omega) (by omega)
 have ws:=wv_mkW (v:=sq3 x2 y2 z2) (by omega) (by omega)
 generalize hc:((mkW (R2.val*R2.val)).hi.val==(mkW (sq3 x2 y2 z2)).hi.val&&((mkW (R2.val*R2.val)).lo.val==(mkW (sq3 x2 y2 z2)).lo.val&&true))=c
 cases c
 ·simp only [Bool.not_false,ctr,w3]
  by_cases hm:R2.val+1>=1152921504606846976
  ·simp only [hm,decide_true,ctr];exact In.whole _
  ·simp only [hm,decide_false,cfl]
   intro _
   simp only [w1,w3]
   exact ⟨down _ r0 r1,up _ (by omega) (by omega)⟩
 ·simp only [Bool.not_true,cfl,w2]
  by_cases hm:R2.val>=1152921504606846976
  ·simp only [hm,decide_true,ctr];exact In.whole _
  ·simp only [hm,decide_false,cfl]
   intro _
   simp only [w1,w2]
   refine ⟨down _ r0 r1,up _ q0 ?_⟩
   simp only [Bool.and_true,Bool.and_eq_true,beq_iff_eq] at hc
   have:wv (mkW (R2.val*R2.val))=wv (mkW (sq3 x2 y2 z2)):=by unfold wv;rw [hc.1,hc.2]
   rw [wm,ws] at this
   omega
end Go.Proofs.YtfcjhkkpbnobhaaGreat.Nc
namespace Go.Proofs.YtfcjhkkpbnobhaaGreat.Nc
open Go Go.Proofs.YtfcjhkkpbnobhaaGreat.An
open Go.Proofs.YtfcjhkkpbnobhaaGreat.Ev hiding mn zfw neg_eq sq_lt sub_eq
structure Rv where
 x:Re
 y:Re
 z:Re
def InV (u:Rv) (v:Vec):Prop:=In u.x v.x/\In u.y v.y/\In u.z v.z
def vec (u v w s:Re):Rv:=⟨u*v,u*w,s⟩
def pv (p:zdn):Rv:=vec (An.cos (Nc.rad p.lat.val)) (An.cos (Nc.rad p.lon.val)) (An.sin (Nc.rad p.lon.val)) (An.sin (Nc.rad p.lat.val))
end Go.Proofs.YtfcjhkkpbnobhaaGreat.Nc
namespace Go.Proofs.YtfcjhkkpbnobhaaGreat.Nc
open Go Go.Proofs.YtfcjhkkpbnobhaaGreat.An
open Go.Proofs.YtfcjhkkpbnobhaaGreat.Ev hiding mn zfw neg_eq sq_lt sub_eq
theorem In.overlap {x:Re} {a b:Iv} (h:In x a) (k:In x b):zT a b=true:=by
 simp only [zT,zel,zcP,zeF,Tr.get]
 cases ha:ze a
 ·cases hb:ze b<;>rfl
 cases hb:ze b
 ·rfl
 obtain ⟨h1,h2⟩:=h ha
 obtain ⟨k1,k2⟩:=k hb
 have l1:=fx_le.1 (le_trans h1 k2)
 have l2:=fx_le.1 (le_trans k1 h2)
 have b1:=(zca _).1 ha
 have b2:=(zca _).1 hb
 have m1:=max_l a.lo b.lo
 have m2:=min_l a.hi b.hi
 have n:¬(zq a.lo b.lo).val>(zu a.hi b.hi).val:=by omega
 simp only [Bool.not_true,cfl,n,decide_false]
end Go.Proofs.YtfcjhkkpbnobhaaGreat.Nc
namespace Go.Proofs.YtfcjhkkpbnobhaaGreat.Nc
open Go Go.Proofs.YtfcjhkkpbnobhaaGreat.An
open Go.Proofs.YtfcjhkkpbnobhaaGreat.Ev hiding mn zfw neg_eq sq_lt sub_eq
def Far (p:zdn):zdn:=⟨.w .i64 (0-p.lat.val),zfg (.w .i64 (p.lon.val+1800000000))⟩
theorem ok_iff {p:zdn}:zaC p=true↔(-900000000<=p.lat.val/\p.lat.val<=900000000)/\(-1799999999<=p.lon.val/\p.lon.val<=1800000000):=by
 simp only [zaC,t_spec_l11Ok,Tr.get,ze5]
 by_cases h: -900000000<=p.lat.val/\p.lat.val<=900000000
 ·simp [h]
 ·simp only [h,decide_false,cfl,false_and,Bool.false_eq_true]
theorem wrap_far {n:I64} (h1:0<n.val) (h2:n.val<=3600000000):(zfg n).val=n.val/\n.val<=1800000000\/(zfg n).val=n.val-3600000000/\1800000000<n.val:=by
 have ht:Int.tmod n.val 3600000000=n.val%3600000000:=Int.tmod_eq_emod_of_nonneg (by omega)
 simp only [zfg,t_spec_l11Wrap,Tr.get,ht]
 have e1:(Rng.w .i64 (n.val%3600000000)).val=n.val%3600000000:=wi (by omega) (by omega)
 simp only [e1]
 have e2:(Rng.w .i64 (n.val%3600000000-3600000000)).val=n.val%3600000000-3600000000:=wi (by omega) (by omega)
 simp only [e2]
 by_cases c:n.val%3600000000>1800000000
 ·have d:¬n.val%3600000000-3600000000 <= -1800000000:=by omega
  simp only [c,d,decide_true,decide_false,ctr,cfl,e2];omega
 ·have d:¬n.val%3600000000 <= -1800000000:=by omega
  simp only [c,d,decide_false,cfl,e1];omega
theorem rad_half (n:Int):Nc.rad (n+1800000000)=Nc.rad n+pi:=by
 rw [rad_add,show Nc.rad 1800000000=pi from (show rat ((1800000000:Int):Rat)*(hp*rat (1/900000000))=2*hp from by
  rw [show ((1800000000:Int):Rat)=1800000000 from rfl];exact An.ring [hp])]
theorem far_ok {p:zdn} (h:zaC p=true):zaC (Far p)=true/\(pv (Far p)).x= -(pv p).x/\(pv (Far p)).y= -(pv p).y/\(pv (Far p)).z= -(pv p).z:=by
 obtain ⟨⟨a1,a2⟩,b1,b2⟩:=ok_iff.1 h
 have ea:(Rng.w .i64 (0-p.lat.val)).val= -p.lat.val:=by rw [wi (by omega) (by omega)];omega
 have eb:(Rng.w .i64 (p.lon.val+1800000000)).val=p.lon.val+1800000000:=wi (by omega) (by omega)
 have w:=wrap_far (n:= .w .i64 (p.lon.val+1800000000)) (by rw [eb];omega) (by rw [eb];omega)
 rw [eb] at w
 refine ⟨ok_iff.2 ⟨by simp only [Far,ea];omega,by simp only [Far];omega⟩,?_⟩
 have r:An.cos (Nc.rad (zfg (.w .i64 (p.lon.val+1800000000))).val)= - An.cos (Nc.rad p.lon.val)/\An.sin (Nc.rad (zfg (.w .i64 (p.lon.val+1800000000))).val)= - An.sin (Nc.rad p.lon.val):=by
  rcases w with ⟨w,_⟩|⟨w,_⟩
  ·rw [w,rad_half];exact ⟨cos_add_pi _,sin_add_pi _⟩
  ·rw [w]
   have k:=rad_half (p.lon.val+1800000000-3600000000)
   rw [show p.lon.val+1800000000-3600000000+1800000000=p.lon.val by omega] at k
   rw [k,cos_add_pi,sin_add_pi]
   generalize An.cos (Nc.rad (p.lon.val+1800000000-3600000000))=c;generalize An.sin (Nc.rad (p.lon.val+1800000000-3600000000))=s
   exact ⟨An.ring [c],An.ring [s]⟩
 simp only [pv,Nc.vec,Far,ea,rad_neg,sin_neg,cos_neg,r.1,r.2]
 generalize An.cos (Nc.rad p.lat.val)=c;generalize An.cos (Nc.rad p.lon.val)=d;generalize An.sin (Nc.rad p.lon.val)=t
 exact ⟨An.ring [c,d],An.ring [c,t],trivial⟩
end Go.Proofs.YtfcjhkkpbnobhaaGreat.Nc
namespace Go.Proofs.YtfcjhkkpbnobhaaGreat.Nc
open Go Go.Proofs.YtfcjhkkpbnobhaaGreat.An
open Go.Proofs.YtfcjhkkpbnobhaaGreat.Ev hiding mn zfw neg_eq sq_lt sub_eq
def ea (e:Ell):Re:=zi e.a.val/zi 1000
def ef (e:Ell):Re:=zi e.num.val/zi e.den.val
def ee (e:Ell):Re:=ef e*(zi 2-ef e)
theorem ell_bd {e:Ell} (h:zah e=true):(1000<=e.a.val/\e.a.val<=100000000000)/\(1<=e.den.val/\e.den.val<=1000000000000)/\0<=e.num.val/\e.num.val*100<=e.den.val:=by
 simp only [zah,t_spec_l12Ok,Tr.get,ze5] at h
 by_cases c1:1000<=e.a.val/\e.a.val<=100000000000
 ·by_cases c2:1<=e.den.val/\e.den.val<=1000000000000
  ·by_cases c3:e.num.val>=0
   ·simp only [c1,c2,c3,and_self,decide_true,ctr] at h
    have t:Int.tdiv e.den.val 100=e.den.val/100:=Int.tdiv_eq_ediv_of_nonneg (by omega)
    rw [t] at h
    have b:(Rng.w .i64 (e.den.val/100)).val=e.den.val/100:=wi (by omega) (by omega)
    rw [b] at h
    have:=of_decide_eq_true h
    omega
   ·simp only [c1,c2,c3,and_self,decide_true,decide_false,ctr,cfl] at h;cases h
  ·simp only [c1,c2,and_self,decide_true,decide_false,ctr,cfl] at h;cases h
 ·simp only [c1,decide_false,cfl] at h;cases h
theorem In.major {e:Ell} (h:zah e=true):In (ea e) (zch e):=by
 simp only [zch,t_spec_MajorI,Tr.get,h,Bool.not_true,cfl]
 exact In.quotient (b:=⟨1000,rfl⟩) (by decide)
theorem In.flat {e:Ell} (h:zah e=true):In (ef e) (zci e):=by
 simp only [zci,zdJ,Tr.get,h,Bool.not_true,cfl]
 exact In.quotient (by have:=(ell_bd h).2.1.1;omega)
theorem In.ecc {e:Ell} (h:zah e=true):In (ee e) (zcu e):=by
 simp only [zcu,t_spec_EccI,Tr.get]
 exact (In.flat h).mul ((In.int (n:=⟨2,rfl⟩) (by decide)).sub (In.flat h))
theorem ea_pos {e:Ell} (h:zah e=true):1<=ea e:=by
 unfold ea
 have p:(0:Re)<zi 1000:=zi_lt.2 (by decide)
 rw [le_div p,An.one_mul]
 exact zi_le.2 (ell_bd h).1.1
theorem ef_bd {e:Ell} (h:zah e=true):0<=ef e/\ef e<=rat (1/100):=by
 obtain ⟨_,⟨d1,_⟩,n0,n1⟩:=ell_bd h
 have p:(0:Re)<zi e.den.val:=zi_lt.2 (show (0:Int)<e.den.val by omega)
 refine ⟨div_n (zi_nn n0) p,(div_le p).2 ?_⟩
 have:=zi_le.2 n1
 rw [zi_mul] at this
 rw [show zi 100=rat 100 from rfl] at this
 generalize zi e.num.val=x at *;generalize zi e.den.val=y at *
 exact zQ [x,y] (kn (1/100) (sn this))
theorem ee_bd {e:Ell} (h:zah e=true):0<=ee e/\ee e<=rat (1/50):=by
 obtain ⟨f0,f1⟩:=ef_bd h
 unfold ee
 rw [show zi 2=rat 2 from rfl]
 generalize ef e=f at *
 have g:0<=rat 2-f:=zQ [f] (pn (sn f1) (qn (199/100)))
 refine ⟨An.mn f0 g,?_⟩
 exact zQ [f] (pn (kn 2 (sn f1)) (sqn f))
def ew (e:Ell) (t:Re):Re:=1-ee e*(An.sin t*An.sin t)
theorem sin_sq1 (t:Re):0<=An.sin t*An.sin t/\An.sin t*An.sin t<=1:=by
 refine ⟨sqn _,?_⟩
 have:=sc_sq t
 have c:=sqn (An.cos t)
 generalize An.sin t*An.sin t=s at *;generalize An.cos t*An.cos t=c2 at *
 rw [<- this]
 exact zQ [s,c2] c
theorem ew_pos {e:Ell} (h:zah e=true) (t:Re):rat (49/50)<=ew e t/\ew e t<=1:=by
 obtain ⟨e0,e1⟩:=ee_bd h
 obtain ⟨s0,s1⟩:=sin_sq1 t
 unfold ew
 generalize An.sin t*An.sin t=s at *;generalize ee e=k at *
 exact ⟨zQ [k,s] (pn (sn e1) (An.mn e0 (sn s1))),zQ [k,s] (An.mn e0 s0)⟩
def en (e:Ell) (t:Re):Re:=ea e/An.sqrt (ew e t)
theorem In.wI {e:Ell} (h:zah e=true) {t:Re} {x:Iv} (k:In t x):In (ew e t) (F_spec_l12W e x):=by
 simp only [F_spec_l12W,t_spec_l12W,Tr.get]
 exact In.one.sub ((In.ecc h).mul k.sin.sqr)
theorem In.radN {e:Ell} (h:zah e=true) {t:Re} {x:Iv} (k:In t x):In (en e t) (zcF e x):=by
 simp only [zcF,t_spec_RadiusN,Tr.get]
 exact (In.major h).div (In.wI h k).sqrt
theorem sw_pos {e:Ell} (h:zah e=true) (t:Re):0<An.sqrt (ew e t):=sqrt_pos (lt_of_lt_of_le (qp (49/50)) (ew_pos h t).1)
theorem en_pos {e:Ell} (h:zah e=true) (t:Re):0<en e t:=div_p (lt_of_lt_of_le (qp 1) (ea_pos h)) (sw_pos h t)
def ph (p:Ev.Place):Re:=zi p.h.val/zi 1000
def cr (e:Ell) (p:Ev.Place):Re:=(en e (Nc.rad p.pt.lat.val)+ph p)*An.cos (Nc.rad p.pt.lat.val)
def cz (e:Ell) (p:Ev.Place):Re:=(en e (Nc.rad p.pt.lat.val)*(1-ee e)+ph p)*An.sin (Nc.rad p.pt.lat.val)
def cv (e:Ell) (p:Ev.Place):Rv:=⟨cr e p*An.cos (Nc.rad p.pt.lon.val),cr e p*An.sin (Nc.rad p.pt.lon.val),cz e p⟩
theorem InV.place {e:Ell} (h:zah e=true) (p:Ev.Place):InV (cv e p) (toC e p):=by
 have hH:In (ph p) (zau p.h ⟨1000,rfl⟩):=In.quotient (b:=⟨1000,rfl⟩) (by decide)
 have hN:=In.radN h (In.rad (n:=p.pt.lat))
 have hr:=(hN.add hH).mul (In.rad (n:=p.pt.lat)).cos
 exact ⟨hr.mul (In.rad (n:=p.pt.lon)).cos,hr.mul (In.rad (n:=p.pt.lon)).sin,((hN.mul (In.one.sub (In.ecc h))).add hH).mul (In.rad (n:=p.pt.lat)).sin⟩
def sd (e:Ell) (r z t:Re):Re:=r*An.sin t-z*An.cos t-ee e*en e t*An.sin t*An.cos t
theorem In.sinAt {n:I64}:In (An.sin (fx n.val)) (zfU n):=by
 simp only [zfU,t_spec_SinAt,Tr.get]
 have:=In.at (n:=n) (t:=⟨0,rfl⟩) (by decide)
 rwa [show qt (⟨0,rfl⟩:I64).val=0 from qt_0,An.add_zero] at this
theorem In.cosAt {n:I64}:In (An.cos (fx n.val)) (zfW n):=by
 simp only [zfW,t_spec_CosAt,Tr.get]
 have:=In.at (n:=n) (t:=⟨1,rfl⟩) (by decide)
 rwa [show qt (⟨1,rfl⟩:I64).val=hp from qt_1,sin_add_hp] at this
theorem In.side {e:Ell} (h:zah e=true) {r z:Re} {f v:Iv} (hr:In r f) (hz:In z v) {n:I64}:In (sd e r z (fx n.val)) (zaa e f v n):=by
 simp only [zaa,zdV,Tr.get]
 have hn:In (en e (fx n.val)) (zcF e (zo n)):=In.radN h (by simp only [zo,zfE,Tr.get];exact In.point)
 exact ((hr.mul In.sinAt).sub (hz.mul In.cosAt)).sub ((((In.ecc h).mul hn).mul In.sinAt).mul In.cosAt)
end Go.Proofs.YtfcjhkkpbnobhaaGreat.Nc
namespace Go.Proofs.YtfcjhkkpbnobhaaGreat.Nc
open Go Go.Proofs.YtfcjhkkpbnobhaaGreat.An
open Go.Proofs.YtfcjhkkpbnobhaaGreat.Ev hiding mn zfw neg_eq sq_lt sub_eq
theorem sq_le' {x y:Re} (hx:0<=x) (hy:0<=y) (h:x<=y):x*x<=y*y:=An.mul_le hx h hx h
theorem side_a {s c p q:Re} (h1:s*s+c*c=1) (h2:p*p+q*q=1) (hc:0<=c) (hq:0<=q) (hs:p<=s):c*(s-p)<=2*(s*q-p*c):=by
 have e:s*s+c*c=p*p+q*q:=h1.trans h2.symm
 rcases lt_or_le s 0 with k|k
 ·have g:s*s<=p*p:=by
   have:=sq_le' (x:= -s) (y:= -p) (zQ [s] (le_of_lt (sp k))) (zQ [p,s] (pn (le_of_lt (sp k)) (sn hs))) (zQ [s,p] (sn hs))
   exact zQ [s,p] (sn this)
  have l:q<=c:=sq_le hc (by
   have:=sn g
   have z:=eq_by (x:=q*q) (y:=s*s+c*c-p*p) [s,c,p,q] e.symm
   rw [z]
   exact zQ [s,c,p] this)
  exact zQ [s,c,p,q] (pn (kn 2 (An.mn (le_of_lt (sp k)) (sn l))) (An.mn hc (sn hs)))
 ·rcases lt_or_le (s+p) 0 with m|m
  ·exact zQ [s,c,p,q] (pn (kn 2 (An.mn k hq)) (An.mn hc (le_of_lt (sp m))))
  ·have g:p*p<=s*s:=by
    have:=An.mn (sn hs) m
    exact zQ [s,p] this
   have l:c<=q:=sq_le hq (by
    have z:=eq_by (x:=q*q) (y:=s*s+c*c-p*p) [s,c,p,q] e.symm
    rw [z]
    exact zQ [s,c,p] (sn g))
   exact zQ [s,c,p,q] (pn (kn 2 (An.mn k (sn l))) (An.mn hc (sn hs)))
theorem side_b {s p k u v:Re} (hu:0<=u) (hv:0<=v) (u2:u*u=1-k*(s*s)) (v2:v*v=1-k*(p*p)) (hk:0<=k) (hk1:k<=rat (1/50)) (hs:p<=s) (s1:s<=1) (p1: -1<=p)
  (hu1:rat (1/2)<=u) (hv1:rat (1/2)<=v) (hv2:v<=1):s*v-p*u<=2*(s-p):=by
 -- s v - p u = (s - p) v + p (v - u), and (v - u)(v + u) = k (s - p)(s + p)
 have key:An.abs (v-u)<=s-p:=by
  have e:(v-u)*(v+u)=k*(s-p)*(s+p):=by
   have z:(v-u)*(v+u)=v*v-u*u:=An.ring [u,v]
   rw [z,u2,v2];exact An.ring [s,p,k]
  have b1:1<=v+u:=zQ [u,v] (pn (sn hu1) (sn hv1))
  have b2:An.abs (v+u)=v+u:=An.zbT (pn hv hu)
  have b3:An.abs ((v-u)*(v+u))<=s-p:=by
   rw [e]
   have d0:=sn hs
   have kk:0<=k*(s-p):=An.mn hk d0
   refine An.abs_le ?_ ?_
   ·have t1:0<=s+p+2:=zQ [s,p] (pn (kn 2 (sn p1)) (sn hs))
    have t2:=An.mn kk t1
    have t3:=An.mn d0 (sn hk1)
    generalize hd:s-p=d at *
    generalize s+p=w at *
    exact zQ [k,d,w] (pn t2 (pn (kn 2 t3) (kn (24/25) d0)))
   ·have t1:0<=2-(s+p):=zQ [s,p] (pn (kn 2 (sn s1)) (sn hs))
    have t2:=An.mn kk t1
    have t3:=An.mn d0 (sn hk1)
    generalize hd:s-p=d at *
    generalize s+p=w at *
    exact zQ [k,d,w] (pn t2 (pn (kn 2 t3) (kn (24/25) d0)))
  rw [An.abs_mul,b2] at b3
  have a0:=An.zc7 (v-u)
  generalize An.abs (v-u)=a at *
  exact le_trans (zQ [a,u,v] (An.mn a0 (sn b1))) b3
 have p2:An.abs p<=1:=An.abs_le p1 (le_trans hs s1)
 have m:An.abs (p*(v-u))<=1*(s-p):=An.zeu p2 key
 have m2:=(An.zfv m).2
 have m3:=An.mn (sn hs) (sn hv2)
 exact zQ [s,p,u,v] (pn (sn m2) m3)
end Go.Proofs.YtfcjhkkpbnobhaaGreat.Nc
namespace Go.Proofs.YtfcjhkkpbnobhaaGreat.Nc
open Go Go.Proofs.YtfcjhkkpbnobhaaGreat.An
open Go.Proofs.YtfcjhkkpbnobhaaGreat.Ev hiding mn zfw neg_eq sq_lt sub_eq
theorem sw_bd {e:Ell} (h:zah e=true) (t:Re):rat (1/2)<=An.sqrt (ew e t)/\An.sqrt (ew e t)<=1/\An.sqrt (ew e t)*An.sqrt (ew e t)=1-ee e*(An.sin t*An.sin t):=by
 obtain ⟨w0,w1⟩:=ew_pos h t
 have q:=sqrt_sq (le_trans (qn (49/50)) w0)
 refine ⟨sq_le (An.sqrt_nn _) ?_,sq_le (qn 1) ?_,q⟩
 ·rw [q]
  exact le_trans (zQ [] (qn (73/100))) w0
 ·rw [q]
  exact le_trans w1 (zQ [] (qn 0))
theorem side_core {s c p q k a u v H m n:Re} (h1:s*s+c*c=1) (h2:p*p+q*q=1) (hc:0<=c) (hq:0<=q) (hs:p<=s) (hD:0<=s*q-p*c)
  (u1:rat (1/2)<=u) (v1:rat (1/2)<=v) (v2:v<=1) (uu:u*u=1-k*(s*s)) (vv:v*v=1-k*(p*p)) (hk:0<=k) (hk1:k<=rat (1/50))
  (s1:s<=1) (p1: -1<=p) (ha:0<=a) (hH:0<=H) (hm:m*v=a) (hn:n*u=a):
  0<=(m+H)*q*s-(m*(1-k)+H)*p*c-k*n*s*c:=by
 have A:=side_a h1 h2 hc hq hs
 have u0:0<=u:=le_trans (qn (1/2)) u1
 have v0:0<=v:=le_trans (qn (1/2)) v1
 have B:=side_b u0 v0 uu vv hk hk1 hs s1 p1 u1 v1 v2
 have E:0<=u*(s*q-p*c)-k*c*(s*v-p*u):=by
  have kc:0<=k*c:=An.mn hk hc
  have b1:=An.mn kc (sn B)
  have b2:=An.mn hk (sn A)
  have b3:=An.mn (sn hk1) hD
  have b4:=An.mn (sn u1) hD
  generalize hd:s*q-p*c=d at *
  generalize s*v-p*u=x at *
  generalize s-p=y at *
  exact zQ [u,d,k,c,x,y] (pn b1 (pn (kn 2 b2) (pn (kn 4 b3) (pn b4 (kn (21/50) hD)))))
 have G:0<=m*(s*q-p*c)+k*m*p*c-k*n*s*c:=by
  have pu:(0:Re)<u:=lt_of_lt_of_le (qp (1/2)) u1
  have pv:(0:Re)<v:=lt_of_lt_of_le (qp (1/2)) v1
  refine ze4 (An.mp pu pv) ?_
  have z:(m*(s*q-p*c)+k*m*p*c-k*n*s*c)*(u*v)=a*(u*(s*q-p*c)-k*c*(s*v-p*u)):=by
   have z1:(m*(s*q-p*c)+k*m*p*c-k*n*s*c)*(u*v)=(m*v)*(u*(s*q-p*c)+k*p*c*u)-(n*u)*(k*s*c*v):=An.ring [m,n,s,q,p,c,k,u,v]
   rw [z1,hm,hn]
   exact An.ring [a,s,q,p,c,k,u,v]
  rw [z,An.zero_mul]
  exact An.mn ha E
 have K:=An.mn hH hD
 exact zQ [m,n,s,q,p,c,k,H] (pn G K)
theorem sd_nn {e:Ell} (h:zah e=true) {f t H:Re} (hH:0<=H) (h1: -hp<=f) (h2:f<=t) (h3:t<=hp):
  0<=sd e ((en e f+H)*An.cos f) ((en e f*(1-ee e)+H)*An.sin f) t:=by
 obtain ⟨u1,u2,uu⟩:=sw_bd h t
 obtain ⟨v1,v2,vv⟩:=sw_bd h f
 obtain ⟨k0,k1⟩:=ee_bd h
 have hD:0<=An.sin t*An.cos f-An.sin f*An.cos t:=by
  have:=sin_nn (x:=t-f) (sn h2) (by unfold pi;exact zQ [t,f,hp] (pn (sn h1) (sn h3)))
  rw [sin_sub] at this
  generalize An.sin t=s at *;generalize An.cos f=q at *;generalize An.cos t=c at *;generalize An.sin f=p at *
  exact zQ [s,q,c,p] this
 have c1:=side_core (s:=An.sin t) (c:=An.cos t) (p:=An.sin f) (q:=An.cos f) (k:=ee e) (a:=ea e) (u:=An.sqrt (ew e t)) (v:=An.sqrt (ew e f)) (H:=H) (m:=en e f) (n:=en e t)
  (sc_sq t) (sc_sq f) (cos_nn (le_trans h1 h2) h3) (cos_nn h1 (le_trans h2 h3)) (sin_mono h1 h2 h3) hD u1 v1 v2 uu vv k0 k1 (sin_le1 t) (sin_gem1 f) (le_trans (qn 1) (ea_pos h)) hH
  (div_mul (An.ne_of_gt (sw_pos h f))) (div_mul (An.ne_of_gt (sw_pos h t)))
 exact c1
theorem en_neg (e:Ell) (t:Re):en e (-t)=en e t:=by
 unfold en ew
 rw [sin_neg,show -An.sin t * -An.sin t=An.sin t*An.sin t from by generalize An.sin t=s;exact An.ring [s]]
theorem sd_neg (e:Ell) (f t H:Re):sd e ((en e (-f)+H)*An.cos (-f)) ((en e (-f)*(1-ee e)+H)*An.sin (-f)) (-t)= - sd e ((en e f+H)*An.cos f) ((en e f*(1-ee e)+H)*An.sin f) t:=by
 unfold sd
 rw [en_neg,en_neg,sin_neg,sin_neg,cos_neg,cos_neg]
 generalize en e f=m;generalize en e t=n;generalize An.sin t=s;generalize An.cos f=q;generalize An.cos t=c;generalize An.sin f=p;generalize ee e=k
 exact An.ring [m,n,s,q,c,p,k,H]
theorem sd_np {e:Ell} (h:zah e=true) {f t H:Re} (hH:0<=H) (h1: -hp<=t) (h2:t<=f) (h3:f<=hp):
  sd e ((en e f+H)*An.cos f) ((en e f*(1-ee e)+H)*An.sin f) t<=0:=by
 have:=sd_nn h (f:= -f) (t:= -t) hH (zQ [f,hp] (sn h3)) (zQ [t,f] (sn h2)) (zQ [t,hp] (sn h1))
 rw [sd_neg] at this
 generalize sd e ((en e f+H)*An.cos f) ((en e f*(1-ee e)+H)*An.sin f) t=x at *
 exact zQ [x] this
end Go.Proofs.YtfcjhkkpbnobhaaGreat.Nc
namespace Go.Proofs.YtfcjhkkpbnobhaaGreat.Nc
open Go Go.Proofs.YtfcjhkkpbnobhaaGreat.An
open Go.Proofs.YtfcjhkkpbnobhaaGreat.Ev hiding mn zfw neg_eq sq_lt sub_eq
theorem sub_two (a b:Iv):ze (zO a b)=true\/zO a b=zm:=by
 simp only [zO,t_spec_SubI,Tr.get]
 cases ze a
 ·exact .inr rfl
 cases ze b
 ·exact .inr rfl
 simp only [Bool.not_true,cfl]
 generalize Rng.w .i64 (a.lo.val-b.hi.val)=l;generalize Rng.w .i64 (a.hi.val-b.lo.val)=h
 by_cases c: -1152921504606846976<l.val/\l.val<=h.val/\h.val<1152921504606846976
 ·rw [zdb c];exact .inl ((zca _).2 c)
 ·rw [make_no c];exact .inr rfl
theorem whole_val:zm.lo.val<=0/\0<=zm.hi.val:=by decide +kernel
theorem side_neg {e:Ell} {f v:Iv} {n:I64} {x:Re} (h:In x (zaa e f v n)) (k:(zaa e f v n).hi.val<0):x<0:=by
 have o:ze (zaa e f v n)=true:=by
  simp only [zaa,zdV,Tr.get] at k ⊢
  rcases sub_two _ _ with o|o
  ·exact o
  ·rw [o] at k;have:=whole_val.2;omega
 exact lt_of_le_of_lt (h o).2 (fx_neg' k)
theorem side_pos {e:Ell} {f v:Iv} {n:I64} {x:Re} (h:In x (zaa e f v n)) (k:(zaa e f v n).lo.val>0):0<x:=by
 have o:ze (zaa e f v n)=true:=by
  simp only [zaa,zdV,Tr.get] at k ⊢
  rcases sub_two _ _ with o|o
  ·exact o
  ·rw [o] at k;have:=whole_val.1;omega
 exact lt_of_lt_of_le (fx_p k) (h o).1
theorem mid_bd {lo hi:I64} {q:Int} (hq:0<=q/\q<=1099511627776) (h1: -q<=lo.val) (h2:hi.val<=q) (h3:hi.val-lo.val>1):lo.val<(Ev.mid lo hi).val/\(Ev.mid lo hi).val<hi.val:=by
 unfold Ev.mid
 have e:(Rng.w .i64 (lo.val+hi.val)).val=lo.val+hi.val:=wi (by omega) (by omega)
 have f:(lo.val+hi.val).fdiv 2=(lo.val+hi.val)/2:=Int.fdiv_eq_ediv_of_nonneg _ (by decide)
 rw [e,f,wi (by omega) (by omega)]
 omega
theorem bis_in {f:I64->Bool} {P Q:Int->Prop} {q:Int} (hq:0<=q/\q<=1099511627776) (hf:∀m:I64,-q<m.val->m.val<q->(f m=true->P m.val)/\(f m=false->Q m.val)):
  ∀(n:Nat) (lo hi:I64),-q<=lo.val->lo.val<=q-> -q<=hi.val->hi.val<=q->(P lo.val->P (bisU f n lo hi).1.val)/\(Q hi.val->Q (bisU f n lo hi).2.val) /\ -q<=(bisU f n lo hi).1.val/\(bisU f n lo hi).1.val<=q:=by
 intro n
 induction n with
 | zero=>intro lo hi h1 h2 _ _;exact ⟨fun h=>h,fun h=>h,h1,h2⟩
 | succ n ih=>
  intro lo hi h1 h2 h3 h4
  simp only [bisU]
  have ew:(Rng.w .i64 (hi.val-lo.val)).val=hi.val-lo.val:=wi (by omega) (by omega)
  rw [ew]
  by_cases c:hi.val-lo.val>1
  ·have m:=mid_bd hq h1 h4 c
   obtain ⟨f1,f2⟩:=hf (Ev.mid lo hi) (by omega) (by omega)
   simp only [c,decide_true,ctr]
   cases hb:f (Ev.mid lo hi)
   ·simp only [cfl]
    obtain ⟨a,b,d⟩:=ih lo (Ev.mid lo hi) h1 h2 (by omega) (by omega)
    exact ⟨a,fun _=>b (f2 hb),d⟩
   ·simp only [ctr]
    obtain ⟨a,b,d⟩:=ih (Ev.mid lo hi) hi (by omega) (by omega) h3 h4
    exact ⟨fun _=>a (f1 hb),b,d⟩
  ·simp only [c,decide_false,cfl]
   exact ⟨fun h=>h,fun h=>h,h1,h2⟩
theorem fx_hp:fx 6746518852<=hp:=by
 refine le_trans ?_ hp_lo
 rw [show fx 6746518852=rat (6746518852/4294967296) from (show rat ((6746518852:Int):Rat)*rat (1/4294967296)=_ from An.ring [])]
 exact num_le _ _
theorem in_hp {m:Int} (h1: -6746518853<m) (h2:m<6746518853): -hp<=fx m/\fx m<=hp:=by
 have a:=fx_le.2 (show m<=6746518852 by omega)
 have b:=fx_le.2 (show -6746518852<=m by omega)
 rw [zfQ] at b
 have k:=fx_hp
 generalize fx m=x at *;generalize fx 6746518852=y at *
 exact ⟨zQ [x,y,hp] (pn (sn b) (sn k)),le_trans a k⟩
theorem lat_in {e:Ell} (h:zah e=true) {v:Vec} {f H:Re} (hH:0<=H) (h1: -hp<=f) (h2:f<=hp)
  (hr:In ((en e f+H)*An.cos f) (zab v)) (hz:In ((en e f*(1-ee e)+H)*An.sin f) v.z):
  fx (zaW e v).lo.val<=f/\f<=fx (zaW e v).hi.val:=by
 have el:zaW e v=latF (fun c=>decide ((zaa e (zab v) v.z c).hi.val<0)) (fun c=> !(decide ((zaa e (zab v) v.z c).lo.val>0))) (zH ⟨1,rfl⟩).hi:=Tr.zaB (lat_spec e v)
 rw [el]
 have q1:=q_val
 generalize (zH ⟨1,rfl⟩).hi=q at *
 have nq:(Rng.w .i64 (0-q.val)).val= -6746518853:=by rw [q1,wi (by decide) (by decide)];rfl
 have hs:=fun n:I64=>In.side h hr hz (n:=n)
 have b1:=bis_in (f:=fun c=>decide ((zaa e (zab v) v.z c).hi.val<0)) (P:=fun m=>fx m<=f) (Q:=fun _=>True) (q:=6746518853) (by decide) (fun m m1 m2=>⟨fun k=>by
  have s:=side_neg (hs m) (of_decide_eq_true k)
  obtain ⟨i1,i2⟩:=in_hp m1 m2
  rcases lt_or_le f (fx m.val) with l|l
  ·exact absurd (sd_nn h hH h1 (le_of_lt l) i2) (An.not_le.2 s)
  ·exact l,fun _=>trivial⟩) 70 (.w .i64 (0-q.val)) q (by rw [nq];decide) (by rw [nq];decide) (by rw [q1];decide) (by rw [q1];decide)
 have b2:=bis_in (f:=fun c=> !(decide ((zaa e (zab v) v.z c).lo.val>0))) (P:=fun _=>True) (Q:=fun m=>f<=fx m) (q:=6746518853) (by decide) (fun m m1 m2=>⟨fun _=>trivial,fun k=>by
  have k':(zaa e (zab v) v.z m).lo.val>0:=by simpa using k
  have s:=side_pos (hs m) k'
  obtain ⟨i1,i2⟩:=in_hp m1 m2
  rcases lt_or_le (fx m.val) f with l|l
  ·exact absurd (sd_np h hH i1 (le_of_lt l) h2) (An.not_le.2 s)
  ·exact l⟩) 70 (bisU (fun c=>decide ((zaa e (zab v) v.z c).hi.val<0)) 70 (.w .i64 (0-q.val)) q).1 q b1.2.2.1 b1.2.2.2 (by rw [q1];decide) (by rw [q1];decide)
 refine ⟨b1.1 ?_,b2.2.1 ?_⟩
 ·rw [nq,zfQ]
  have k:=hp_fx
  generalize fx 6746518853=y at *
  exact zQ [y,hp,f] (pn (sn k) (sn h1))
 ·rw [q1]
  exact le_trans h2 hp_fx
end Go.Proofs.YtfcjhkkpbnobhaaGreat.Nc
namespace Go.Proofs.YtfcjhkkpbnobhaaGreat.Nc
open Go Go.Proofs.YtfcjhkkpbnobhaaGreat.An
open Go.Proofs.YtfcjhkkpbnobhaaGreat.Ev hiding mn zfw neg_eq sq_lt sub_eq
theorem height_eq {e:Ell} (h:zah e=true) (f H:Re):
  (en e f+H)*An.cos f*An.cos f+(en e f*(1-ee e)+H)*An.sin f*An.sin f-ea e*An.sqrt (ew e f)=H:=by
 have w:=(sw_bd h f).2.2
 have d:en e f*An.sqrt (ew e f)=ea e:=div_mul (An.ne_of_gt (sw_pos h f))
 have s1:=sc_sq f
 rw [<- d]
 generalize en e f=m at *;generalize An.sqrt (ew e f)=u at *;generalize An.sin f=s at *;generalize An.cos f=c at *;generalize ee e=k at *
 have z:(m+H)*c*c+(m*(1-k)+H)*s*s-m*u*u=(m+H)*(s*s+c*c)-m*(k*(s*s))-m*(u*u):=An.ring [m,H,s,c,k,u]
 rw [z,s1,w]
 exact An.ring [m,H,s,k]
theorem rad_hp:Nc.rad 900000000=hp:=by
 show rat ((900000000:Int):Rat)*(hp*rat (1/900000000))=hp
 rw [show ((900000000:Int):Rat)=900000000 from rfl];exact An.ring [hp]
theorem rad_le {a b:Int} (h:a<=b):Nc.rad a<=Nc.rad b:=by
 unfold Nc.rad
 have k:=zi_le.2 h
 have p:=hp_p
 generalize zi a=x at *;generalize zi b=y at *
 exact zQ [x,y,hp] (An.mn (sn k) (kn (1/900000000) (le_of_lt p)))
theorem rad_lt {a b:Int} (h:a<b):Nc.rad a<Nc.rad b:=by
 unfold Nc.rad
 have k:=zi_lt.2 h
 have p:=hp_p
 generalize zi a=x at *;generalize zi b=y at *
 exact zec [x,y,hp] (An.mp (sp k) (kp (1/900000000) p))
theorem lat_bd {p:zdn} (h:zaC p=true): -hp<=Nc.rad p.lat.val/\Nc.rad p.lat.val<=hp:=by
 obtain ⟨⟨a,b⟩,_⟩:=ok_iff.1 h
 have h1:=rad_le a
 have h2:=rad_le b
 rw [rad_hp] at h2
 rw [rad_neg,rad_hp] at h1
 exact ⟨h1,h2⟩
theorem lon_bd {p:zdn} (h:zaC p=true): -pi<Nc.rad p.lon.val/\Nc.rad p.lon.val<=pi:=by
 obtain ⟨_,a,b⟩:=ok_iff.1 h
 have e:=rad_half 0
 rw [rad_0,An.zero_add,Int.zero_add] at e
 have h1:=rad_lt (show (-1800000000:Int)<p.lon.val by omega)
 have h2:=rad_le b
 rw [e] at h2
 rw [rad_neg,e] at h1
 exact ⟨h1,h2⟩
theorem lon_dir {p:zdn} (h:zaC p=true) {r:Re} (hr:0<r):An.dir (r*An.sin (Nc.rad p.lon.val)) (r*An.cos (Nc.rad p.lon.val))=Nc.rad p.lon.val:=
 dir_unique ⟨r,hr,rfl,rfl⟩ (lon_bd h).1 (lon_bd h).2
theorem cr_pos {e:Ell} (h:zah e=true) {p:Ev.Place} (hp':zaC p.pt=true) (h0:0<=p.h.val) (n1: -900000000<p.pt.lat.val) (n2:p.pt.lat.val<900000000):0<cr e p:=by
 have hH:0<=ph p:=div_n (zi_nn h0) (zi_lt.2 (by decide))
 have c:0<An.cos (Nc.rad p.pt.lat.val):=by
  have a:=rad_lt n1
  have b:=rad_lt n2
  rw [rad_hp] at b
  rw [rad_neg,rad_hp] at a
  exact cos_pos a b
 exact An.mp (ppn (en_pos h _) hH) c
end Go.Proofs.YtfcjhkkpbnobhaaGreat.Nc
namespace Go.Proofs.YtfcjhkkpbnobhaaGreat.Nc
open Go Go.Proofs.YtfcjhkkpbnobhaaGreat.An
open Go.Proofs.YtfcjhkkpbnobhaaGreat.Ev hiding mn zfw neg_eq sq_lt sub_eq
theorem lat_bds (e:Ell) (v:Vec): -6746518853<=(zaW e v).lo.val/\(zaW e v).hi.val<=6746518853:=by
 have el:zaW e v=latF (fun c=>decide ((zaa e (zab v) v.z c).hi.val<0)) (fun c=> !(decide ((zaa e (zab v) v.z c).lo.val>0))) (zH ⟨1,rfl⟩).hi:=Tr.zaB (lat_spec e v)
 rw [el]
 have q1:=q_val
 generalize (zH ⟨1,rfl⟩).hi=q at *
 have nq:(Rng.w .i64 (0-q.val)).val= -6746518853:=by rw [q1,wi (by decide) (by decide)];rfl
 have b1:=bis_in (f:=fun c=>decide ((zaa e (zab v) v.z c).hi.val<0)) (P:=fun _=>True) (Q:=fun _=>True) (q:=6746518853) (by decide) (fun m m1 m2=>⟨fun _=>trivial,fun _=>trivial⟩) 70 (.w .i64 (0-q.val)) q (by rw [nq];decide) (by rw [nq];decide) (by rw [q1];decide) (by rw [q1];decide)
 have b2:=bis_in (f:=fun c=> !(decide ((zaa e (zab v) v.z c).lo.val>0))) (P:=fun _=>True) (Q:=fun m=>m<=6746518853) (q:=6746518853) (by decide) (fun m m1 m2=>⟨fun _=>trivial,fun _=>Int.le_of_lt m2⟩) 70 (bisU (fun c=>decide ((zaa e (zab v) v.z c).hi.val<0)) 70 (.w .i64 (0-q.val)) q).1 q b1.2.2.1 b1.2.2.2 (by rw [q1];decide) (by rw [q1];decide)
 exact ⟨b1.2.2.1,b2.2.1 (by rw [q1];decide)⟩
theorem lat_ok {e:Ell} {v:Vec} {f:Re} (h:fx (zaW e v).lo.val<=f/\f<=fx (zaW e v).hi.val):ze (zaW e v)=true/\In f (zaW e v):=by
 have b:=lat_bds e v
 have l:=fx_le.1 (le_trans h.1 h.2)
 exact ⟨(zca _).2 (by omega),fun _=>h⟩
theorem In.flatV {W:Rv} {v:Vec} (h:InV W v):In (An.sqrt (W.x*W.x+W.y*W.y)) (zab v):=by
 simp only [zab,t_spec_l15Flat,Tr.get]
 have:=In.norm (v:=⟨v.x,v.y,⟨⟨0,rfl⟩,⟨0,rfl⟩⟩⟩) (z:=0) h.1 h.2.1 (fun _=>by simp only [fx_0];exact ⟨le_refl _,le_refl _⟩)
 rwa [show W.x*W.x+W.y*W.y+0*0=W.x*W.x+W.y*W.y from by obtain ⟨x,y,z⟩:=W;exact An.ring [x,y]] at this
theorem In.wI' {e:Ell} (h:zah e=true) {t:Re} {x:Iv} (k:In t x):In (An.sqrt (ew e t)) (zbl (zO (zB ⟨1,rfl⟩) (zS (zcu e) (za7 (zct x))))):=(In.one.sub ((In.ecc h).mul k.sin.sqr)).sqrt
theorem cr_nn {e:Ell} (h:zah e=true) {p:Ev.Place} (hp':zaC p.pt=true) (h0:0<=p.h.val):0<=cr e p:=
 An.mn (pn (le_of_lt (en_pos h _)) (div_n (zi_nn h0) (zi_lt.2 (by decide)))) (cos_nn (lat_bd hp').1 (lat_bd hp').2)
theorem flat_place {e:Ell} (h:zah e=true) {p:Ev.Place} (hp':zaC p.pt=true) (h0:0<=p.h.val):In (cr e p) (zab (toC e p)):=by
 have k:=In.flatV (InV.place h p)
 have s:=sc_sq (Nc.rad p.pt.lon.val)
 have z:(cv e p).x*(cv e p).x+(cv e p).y*(cv e p).y=cr e p*cr e p:=by
  simp only [cv]
  generalize cr e p=r;generalize An.cos (Nc.rad p.pt.lon.val)=c at *;generalize An.sin (Nc.rad p.pt.lon.val)=t at *
  exact eq_by [r,c,t] (congrArg (fun w=>r*r*w) s:r*r*(t*t+c*c)=r*r*1)
 rw [z,sqrt_eq (cr_nn h hp' h0) rfl] at k
 exact k
theorem place_lat {e:Ell} (h:zah e=true) {p:Ev.Place} (hp':zaC p.pt=true) (h0:0<=p.h.val):ze (zaW e (toC e p))=true/\In (Nc.rad p.pt.lat.val) (zaW e (toC e p)):=
 lat_ok (lat_in h (div_n (zi_nn h0) (zi_lt.2 (by decide)):0<=ph p) (lat_bd hp').1 (lat_bd hp').2 (flat_place h hp' h0) (InV.place h p).2.2)
end Go.Proofs.YtfcjhkkpbnobhaaGreat.Nc
namespace Go.Proofs.YtfcjhkkpbnobhaaGreat.Nc
open Go Go.Proofs.YtfcjhkkpbnobhaaGreat.An
open Go.Proofs.YtfcjhkkpbnobhaaGreat.Ev hiding mn zfw neg_eq sq_lt sub_eq
theorem at_point {a b:Iv} {p:zdn} (h:zaC p=true) (ha:In (Nc.rad p.lat.val) a) (hb: -900000000<p.lat.val->p.lat.val<900000000->In (Nc.rad p.lon.val) b):zfj a b p=true:=by
 have o1:zT a (F_spec_LatOf p)=true:=by
  rw [slat_eq h];exact ha.overlap In.rad
 simp only [zfj,t_spec_AtPoint,Tr.get,h,o1,Bool.not_true,cfl]
 cases hp':F_spec_l11Pole p
 ·obtain ⟨⟨l1,l2⟩,m1,m2⟩:=ok_iff.1 h
  have n:¬p.lat.val=900000000/\¬p.lat.val= -900000000:=by
   refine ⟨fun e=>?_,fun e=>?_⟩<;>simp [F_spec_l11Pole,t_spec_l11Pole,Tr.get,e] at hp'
  have ew:Rng.w .i64 (p.lon.val+0)=p.lon:=rext (by rw [wi (by omega) (by omega)];omega)
  have o2:zT b (zP (Rng.w .i64 (p.lon.val+0)))=true:=by
   rw [ew];exact (hb (by omega) (by omega)).overlap In.rad
  simp only [cfl,o2,ctr,Bool.cond_true_left,Bool.or_true,Bool.true_or]
 ·rfl
theorem from_law {e:Ell} (h:zah e=true) {p:Ev.Place} (hp':zaC p.pt=true) (hh:zar p.h ⟨-20000000,rfl⟩ ⟨20000000000,rfl⟩=true) (h0:0<=p.h.val)
  (hd:(zaS e (toC e p)).d.val=0):
  zfj (zaS e (toC e p)).a (zaS e (toC e p)).b p.pt=true /\
  zT (zaS e (toC e p)).c (F_spec_HeightI p.h)=true/\zbM (zaS e (toC e p)).a=true:=by
 obtain ⟨lo,li⟩:=place_lat h hp' h0
 have hv:=InV.place h p
 have hf:=flat_place h hp' h0
 have hc:=((hf.mul li.cos).add (hv.2.2.mul li.sin)).sub ((In.major h).mul (In.wI' h li))
 have hlon:=hv.2.1.dir hv.1
 simp only [zaS,zc3,Tr.get,siw_eq] at hd ⊢
 generalize zcE e (toC e p)=c1 at *
 cases k1:(c1.val != 0)
 ·simp only [k1,cfl] at hd ⊢
  cases k2:ze (zO (zak (zS (zab (toC e p)) (zd3 (zaW e (toC e p)))) (zS (toC e p).z (zct (zaW e (toC e p))))) (zS (zch e) (zbl (zO (zB ⟨1,rfl⟩) (zS (zcu e) (za7 (zct (zaW e (toC e p)))))))))
  ·rw [k2] at hd;simp only [Bool.not_false,ctr] at hd;cases hd
  ·simp only [Bool.not_true,cfl]
   refine ⟨at_point hp' li fun n1 n2=>?_,?_,?_⟩
   ·have z:=lon_dir hp' (cr_pos h hp' h0 n1 n2)
    have y:=hlon
    simp only [cv] at y
    rwa [z] at y
   ·have hH:In (ph p) (F_spec_HeightI p.h):=by
     simp only [F_spec_HeightI,zdc,Tr.get,hh,q_G_spec,Bool.not_true,cfl,ctr]
     exact In.quotient (b:=⟨1000,rfl⟩) (by decide)
    have z:=height_eq h (Nc.rad p.pt.lat.val) (ph p)
    refine In.overlap (x:=ph p) ?_ hH
    have y:=hc
    rw [show cr e p*An.cos (Nc.rad p.pt.lat.val)+(cv e p).z*An.sin (Nc.rad p.pt.lat.val)-ea e*An.sqrt (ew e (Nc.rad p.pt.lat.val))=ph p from z] at y
    exact y
   ·simp only [zbM,zc2,Tr.get];exact lo
 ·exfalso
  simp only [k1,ctr] at hd
  simp [hd] at k1
end Go.Proofs.YtfcjhkkpbnobhaaGreat.Nc
