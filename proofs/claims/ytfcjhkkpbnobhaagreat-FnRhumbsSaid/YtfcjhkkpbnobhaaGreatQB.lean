/- The law FnRhumbs gives true, whatever bytes come in. No conditions. (One of the texts of its proof, put together by a program of this session.) -/
import Derived.Test.YtfcjhkkpbnobhaaGreatQA
import Derived.Test.YtfcjhkkpbnobhaaGreatQW5
import Derived.Test.YtfcjhkkpbnobhaaGreatQW8
set_option linter.unusedSectionVars false
set_option linter.unusedSimpArgs false
set_option linter.unusedVariables false
noncomputable section
namespace Go.Proofs.YtfcjhkkpbnobhaaGreat.Nc
open Go Go.Proofs.YtfcjhkkpbnobhaaGreat.An
open Go.Proofs.YtfcjhkkpbnobhaaGreat.Ev hiding mn mul_bd neg_eq sq_lt sub_eq
def fx (n:Int):Re:=zi n*rat (1/4294967296)
def In (x:Re) (a:Iv):Prop:=za a=true->fx a.lo.val<=x/\x<=fx a.hi.val
theorem In.no {x:Re} {a:Iv} (h:za a=false):In x a:=fun k=>by rw [h] at k;cases k
theorem In.whole (x:Re):In x zo:=In.no zbn
theorem zft {a b:Int}:fx a<=fx b↔a<=b:=by
 unfold fx
 constructor
 ·intro h;exact zi_le.1 (zde (qp (1/4294967296)) h)
 ·intro h;have:=zi_le.2 h;generalize zi a=x at *;generalize zi b=y at *;exact zK [x,y] (mn (sn this) (qn (1/4294967296)))
theorem fx_lt {a b:Int}:fx a<fx b↔a<b:=by
 rw [<- An.not_le,zft];omega
theorem fx_add (a b:Int):fx (a+b)=fx a+fx b:=by unfold fx;rw [zi_add,An.add_mul]
theorem zfU (a:Int):fx (-a)= - fx a:=by unfold fx;rw [zi_neg,An.neg_mul]
theorem fx_sub (a b:Int):fx (a-b)=fx a-fx b:=by rw [Int.sub_eq_add_neg,fx_add,zfU];rfl
theorem fx_0:fx 0=0:=An.zero_mul _
theorem fx_unit (a:Int):fx (a*4294967296)=zi a:=by
 unfold fx;rw [zeo];generalize zi a=x
 show x*rat (4294967296:Int)*_=x
 exact ring [x]
theorem fx_1:fx 4294967296=1:=fx_unit 1
theorem fx_nn {a:Int} (h:0<=a):0<=fx a:=by rw [<- fx_0];exact zft.2 h
theorem fx_p {a:Int} (h:0<a):0<fx a:=by rw [<- fx_0];exact fx_lt.2 h
theorem fx_neg' {a:Int} (h:a<0):fx a<0:=by rw [<- fx_0];exact fx_lt.2 h
theorem In.point {n:I64}:In (fx n.val) ⟨n,n⟩:=fun _=>⟨le_refl _,le_refl _⟩
theorem In.add {x y:Re} {a b:Iv} (h:In x a) (k:In y b):In (x+y) (zP a b):=fun ok=>by
 obtain ⟨o1,o2,e1,e2⟩:=addI_val ok
 obtain ⟨h1,h2⟩:=h o1
 obtain ⟨k1,k2⟩:=k o2
 rw [e1,e2,fx_add,fx_add]
 exact ⟨add_le h1 k1,add_le h2 k2⟩
theorem In.sub {x y:Re} {a b:Iv} (h:In x a) (k:In y b):In (x-y) (zQ a b):=fun ok=>by
 obtain ⟨o1,o2,e1,e2⟩:=subI_val ok
 obtain ⟨h1,h2⟩:=h o1
 obtain ⟨k1,k2⟩:=k o2
 rw [e1,e2,fx_sub,fx_sub]
 generalize fx a.lo.val=p at *;generalize fx a.hi.val=q at *;generalize fx b.lo.val=r at *;generalize fx b.hi.val=s at *
 exact ⟨zK [x,y,p,q,r,s] (pn (sn h1) (sn k2)),zK [x,y,p,q,r,s] (pn (sn h2) (sn k1))⟩
theorem In.dbl {x:Re} {a:Iv} (h:In x a):In (2*x) (zbX a):=fun ok=>by
 obtain ⟨o1,e1,e2⟩:=dblI_val ok
 obtain ⟨h1,h2⟩:=h o1
 rw [e1,e2,show 2*a.lo.val=a.lo.val+a.lo.val by omega,show 2*a.hi.val=a.hi.val+a.hi.val by omega,fx_add,fx_add]
 generalize fx a.lo.val=p at *;generalize fx a.hi.val=q at *
 exact ⟨zK [x,p,q] (kn 2 (sn h1)),zK [x,p,q] (kn 2 (sn h2))⟩
theorem negI_val {a:Iv} (h:za (zaM a)=true):za a=true/\(zaM a).lo.val= -a.hi.val/\(zaM a).hi.val= -a.lo.val:=by
 simp only [zaM,t_spec_NegI,Tr.get] at h ⊢
 cases ha:za a
 ·rw [ha] at h;simp only [Bool.not_false,ctr] at h;rw [zbn] at h;cases h
 have b:=(zbR _).1 ha
 have e1:(Rng.w .i64 (0-a.hi.val)).val= -a.hi.val:=by rw [wi (by omega) (by omega)];omega
 have e2:(Rng.w .i64 (0-a.lo.val)).val= -a.lo.val:=by rw [wi (by omega) (by omega)];omega
 simp only [ha,Bool.not_true,cfl] at h ⊢
 rw [zcx (by rw [e1,e2];omega)]
 exact ⟨trivial,e1,e2⟩
theorem In.neg {x:Re} {a:Iv} (h:In x a):In (-x) (zaM a):=fun ok=>by
 obtain ⟨o1,e1,e2⟩:=negI_val ok
 obtain ⟨h1,h2⟩:=h o1
 rw [e1,e2,zfU,zfU]
 generalize fx a.lo.val=p at *;generalize fx a.hi.val=q at *
 exact ⟨zK [x,q] (sn h2),zK [x,p] (sn h1)⟩
theorem fx_floor {p d:Int} (hd:0<d):zi (p/d)*zi d<=zi p:=by
 rw [<- zeo,zi_le]
 have:=Int.ediv_mul_le p (show d≠0 by omega)
 omega
theorem fx_mul_lo (x y:Int):fx (x*y/4294967296)<=fx x*fx y:=by
 have:=fx_floor (p:=x*y) (d:=4294967296) (by decide)
 rw [zeo x y] at this
 unfold fx
 generalize zi (x*y/4294967296)=q at *;generalize zi x=a at *;generalize zi y=b at *
 rw [show zi 4294967296=rat 4294967296 from rfl] at this
 exact zK [q,a,b] (kn (1/18446744073709551616) (sn this))
theorem fx_mul_hi (x y:Int):fx x*fx y<=fx (-(-(x*y)/4294967296)):=by
 have:=fx_mul_lo (-x) y
 rw [show -x*y= -(x*y) from Int.neg_mul x y,zfU x] at this
 rw [zfU]
 generalize fx (-(x*y)/4294967296)=q at *;generalize fx x=a at *;generalize fx y=b at *
 exact zK [q,a,b] (sn this)
theorem real_lo {p q r s x y L:Re} (hx:p<=x) (hx':x<=q) (hy:r<=y) (hy':y<=s) (h1:L<=p*r) (h2:L<=p*s) (h3:L<=q*r) (h4:L<=q*s):L<=x*y:=by
 have a:∀u,L<=u*r->L<=u*s->L<=u*y:=fun u k1 k2=>by
  rcases le_total 0 u with m|m
  ·exact le_trans k1 (zK [u,r,y] (mn m (sn hy)))
  ·exact le_trans k2 (zK [u,s,y] (mn (neg_nn m) (sn hy')))
 have b1:=a p h1 h2
 have b2:=a q h3 h4
 rcases le_total 0 y with m|m
 ·exact le_trans b1 (zK [p,x,y] (mn (sn hx) m))
 ·exact le_trans b2 (zK [q,x,y] (mn (sn hx') (neg_nn m)))
theorem real_hi {p q r s x y L:Re} (hx:p<=x) (hx':x<=q) (hy:r<=y) (hy':y<=s) (h1:p*r<=L) (h2:p*s<=L) (h3:q*r<=L) (h4:q*s<=L):x*y<=L:=by
 have:=real_lo (L:= -L) (p:= -q) (q:= -p) (x:= -x) (zK [q,x] (sn hx')) (zK [p,x] (sn hx)) hy hy'
  (zK [q,r,L] (sn h3)) (zK [q,s,L] (sn h4)) (zK [p,r,L] (sn h1)) (zK [p,s,L] (sn h2))
 exact zK [x,y,L] (sn this)
theorem In.mul {x y:Re} {a b:Iv} (h:In x a) (k:In y b):In (x*y) (zC a b):=fun ok=>by
 obtain ⟨o1,o2,hc⟩:=mulI_corner ok
 obtain ⟨h1,h2⟩:=h o1
 obtain ⟨k1,k2⟩:=k o2
 have lo:∀u v:I64,(u=a.lo\/u=a.hi)->(v=b.lo\/v=b.hi)->fx (zC a b).lo.val<=fx u.val*fx v.val:=fun u v hu hv=>le_trans (zft.2 (hc u v hu hv).1) (fx_mul_lo _ _)
 have hi:∀u v:I64,(u=a.lo\/u=a.hi)->(v=b.lo\/v=b.hi)->fx u.val*fx v.val<=fx (zC a b).hi.val:=fun u v hu hv=>le_trans (fx_mul_hi _ _) (zft.2 (hc u v hu hv).2)
 exact ⟨real_lo h1 h2 k1 k2 (lo _ _ (.inl rfl) (.inl rfl)) (lo _ _ (.inl rfl) (.inr rfl)) (lo _ _ (.inr rfl) (.inl rfl)) (lo _ _ (.inr rfl) (.inr rfl)),
  real_hi h1 h2 k1 k2 (hi _ _ (.inl rfl) (.inl rfl)) (hi _ _ (.inl rfl) (.inr rfl)) (hi _ _ (.inr rfl) (.inl rfl)) (hi _ _ (.inr rfl) (.inr rfl))⟩
theorem ends_val {a:Iv} (h:za a=true):0<=(zM a).a.val/\((a.lo.val<=0/\0<=a.hi.val/\(zM a).a.val=0)\/(0<a.lo.val/\(zM a).a.val=a.lo.val)\/(a.hi.val<0/\(zM a).a.val= -a.hi.val)) /\
  a.hi.val<=(zM a).b.val /\ -a.lo.val<=(zM a).b.val/\(zM a).b.val<1152921504606846976/\(zM a).a.val<=(zM a).b.val:=by
 have b:=(zbR _).1 h
 have n1:(Rng.w .i64 (0-a.lo.val)).val= -a.lo.val:=by rw [wi (by omega) (by omega)];omega
 have n2:(Rng.w .i64 (0-a.hi.val)).val= -a.hi.val:=by rw [wi (by omega) (by omega)];omega
 have m1:=max_l a.lo (.w .i64 (0-a.lo.val))
 have m2:=max_l a.hi (.w .i64 (0-a.hi.val))
 have m3:=max_l (zt a.lo (.w .i64 (0-a.lo.val))) (zt a.hi (.w .i64 (0-a.hi.val)))
 have m4:=min_l (zt a.lo (.w .i64 (0-a.lo.val))) (zt a.hi (.w .i64 (0-a.hi.val)))
 rw [n1] at m1
 rw [n2] at m2
 have hh:zaO a ⟨0,rfl⟩=decide (a.lo.val<=0/\0<=a.hi.val):=by simp only [zaO,zcg,Tr.get,zeF]
 simp only [zM,zd6,Tr.get,hh]
 by_cases c:a.lo.val<=0/\0<=a.hi.val
 ·simp only [c,and_self,decide_true,ctr]
  exact ⟨by decide,by first|exact .inl trivial|simp [c.1,c.2],by omega,by omega,by omega,by omega⟩
 ·simp only [c,decide_false,cfl]
  exact ⟨by omega,by omega,by omega,by omega,by omega,by omega⟩
theorem In.ends {x:Re} {a:Iv} (h:In x a) (o:za a=true):fx (zM a).a.val<=An.abs x/\An.abs x<=fx (zM a).b.val:=by
 obtain ⟨h1,h2⟩:=h o
 obtain ⟨e0,e1,e2,e3,e4,e5⟩:=ends_val o
 constructor
 ·rcases e1 with ⟨_,_,e⟩|⟨k,e⟩|⟨k,e⟩
  ·rw [e,fx_0];exact zdl x
  ·rw [e];exact le_trans h1 (le_abs x)
  ·rw [e,zfU]
   have:=neg_le_abs x
   generalize fx a.hi.val=q at *;generalize An.abs x=u at *
   exact zK [x,q,u] (pn (sn this) (sn h2))
 ·refine zfV ?_ (le_trans h2 (zft.2 e2))
  refine le_trans ?_ h1
  rw [<- zfU];exact zft.2 (by omega)
theorem In.sqr {x:Re} {a:Iv} (h:In x a):In (x*x) (zbe a):=fun ok=>by
 obtain ⟨o1,e1,e2⟩:=sqrI_val ok
 obtain ⟨h1,h2⟩:=h.ends o1
 have e0:=(ends_val o1).1
 rw [e1,e2,<- abs_sq]
 exact ⟨le_trans (fx_mul_lo _ _) (mul_le (fx_nn e0) h1 (fx_nn e0) h1),le_trans (mul_le (zdl x) h2 (zdl x) h2) (fx_mul_hi _ _)⟩
theorem In.abs {x:Re} {a:Iv} (h:In x a):In (An.abs x) (zbm a):=fun ok=>by
 simp only [zbm,t_spec_AbsI,Tr.get] at ok ⊢
 cases ha:za a
 ·rw [ha] at ok;simp only [Bool.not_false,ctr] at ok;rw [zbn] at ok;cases ok
 have e:=ends_val ha
 simp only [ha,Bool.not_true,cfl]
 rw [zcx (by omega)]
 exact h.ends ha
theorem zi_nn {a:Int} (h:0<=a):0<=zi a:=by rw [<- zi_0];exact zi_le.2 h
theorem fx_sq (a:Int):fx a*fx a=zi (a*a)*rat (1/18446744073709551616):=by
 unfold fx;rw [zeo];generalize zi a=x;exact ring [x]
theorem fx_up (a:Int):fx a=zi (a*4294967296)*rat (1/18446744073709551616):=by
 unfold fx;rw [zeo];generalize zi a=x;show _=x*rat (4294967296:Int)*_;exact ring [x]
theorem zk_le {a b:Int} (h:a<=b):zi a*rat (1/18446744073709551616)<=zi b*rat (1/18446744073709551616):=by
 have:=zi_le.2 h;generalize zi a=x at *;generalize zi b=y at *;exact zK [x,y] (mn (sn this) (qn (1/18446744073709551616)))
theorem In.sqrt {x:Re} {a:Iv} (h:In x a):In (An.sqrt x) (zb8 a):=fun ok=>by
 obtain ⟨o1,o2⟩:=sqrtI_nn ok
 obtain ⟨_,e1,e2⟩:=sqrtI_mk o1 o2
 have b:=(zbR _).1 o1
 obtain ⟨h1,h2⟩:=h o1
 have x0:=le_trans (fx_nn o2) h1
 rw [e1,e2]
 obtain ⟨q,p,s1,s2,t0,t1,t2,t3,t4,t5,t6,t7⟩:=su_val2 a.lo (by omega)
 obtain ⟨q',p',s1',s2',t0',t1',t2',t3',t4',t5',t6',t7'⟩:=su_val2 a.hi (by omega)
 rw [s1,s2']
 simp only
 constructor
 ·refine sq_le (An.sqrt_nn x) ?_
  rw [An.sqrt_sq x0,fx_sq]
  refine le_trans ?_ h1
  rw [fx_up];exact zk_le t2
 ·refine sq_le (fx_nn (by omega)) ?_
  rw [An.sqrt_sq x0,fx_sq]
  refine le_trans h2 ?_
  rw [fx_up];exact zk_le t6'
theorem fx_div_lo {x y:Int} (hy:0<y):fx (x*4294967296/y)<=fx x/fx y:=by
 rw [le_div (fx_p hy)]
 have:=fx_floor (p:=x*4294967296) hy
 unfold fx
 rw [zeo x] at this
 generalize zi (x*4294967296/y)=q at *;generalize zi x=a at *;generalize zi y=b at *
 rw [show zi 4294967296=rat 4294967296 from rfl] at this
 exact zK [q,a,b] (kn (1/18446744073709551616) (sn this))
theorem neg_div (x y:Re): -x/y= -(x/y):=by rw [div_eq,div_eq,An.neg_mul]
theorem fx_div_hi {x y:Int} (hy:0<y):fx x/fx y<=fx (-(-x*4294967296/y)):=by
 have:=fx_div_lo (x:= -x) hy
 rw [zfU,neg_div] at this
 rw [zfU]
 generalize fx (-x*4294967296/y)=q at *;generalize fx x/fx y=a at *
 exact zK [q,a] (sn this)
theorem inv_le {y s:Re} (h0:0<y) (h:y<=s):s⁻¹<=y⁻¹:=by
 have hs:=lt_of_lt_of_le h0 h
 have e1:=mul_inv (ne_of_gt h0)
 have e2:=mul_inv (ne_of_gt hs)
 refine zde (mp h0 hs) ?_
 generalize y⁻¹=a at *;generalize s⁻¹=b at *
 rw [show b*(y*s)=y*(s*b) from ring [b,y,s],show a*(y*s)=s*(y*a) from ring [a,y,s],e1,e2]
 exact zK [y,s] (sn h)
theorem In.div_pos {x y:Re} {a b:Iv} (h:In x a) (k:In y b) (h0:0<b.lo.val):In (x/y) (zz a b):=fun ok=>by
 obtain ⟨o1,o2,hc⟩:=divI_corner h0 ok
 obtain ⟨h1,h2⟩:=h o1
 obtain ⟨k1,k2⟩:=k o2
 have b':=(zbR _).1 o2
 have y0:=lt_of_lt_of_le (fx_p h0) k1
 have i1:=inv_le y0 k2
 have i2:=inv_le (fx_p h0) k1
 have p0:∀v:I64,(v=b.lo\/v=b.hi)->0<v.val:=by rintro v (rfl|rfl)<;>omega
 have lo:∀u v:I64,(u=a.lo\/u=a.hi)->(v=b.lo\/v=b.hi)->fx (zz a b).lo.val<=fx u.val*(fx v.val)⁻¹:=fun u v hu hv=>le_trans (zft.2 (hc u v hu hv).1) (fx_div_lo (p0 v hv))
 have hi:∀u v:I64,(u=a.lo\/u=a.hi)->(v=b.lo\/v=b.hi)->fx u.val*(fx v.val)⁻¹<=fx (zz a b).hi.val:=fun u v hu hv=>le_trans (fx_div_hi (p0 v hv)) (zft.2 (hc u v hu hv).2)
 exact ⟨real_lo h1 h2 i1 i2 (lo _ _ (.inl rfl) (.inr rfl)) (lo _ _ (.inl rfl) (.inl rfl)) (lo _ _ (.inr rfl) (.inr rfl)) (lo _ _ (.inr rfl) (.inl rfl)),
  real_hi h1 h2 i1 i2 (hi _ _ (.inl rfl) (.inr rfl)) (hi _ _ (.inl rfl) (.inl rfl)) (hi _ _ (.inr rfl) (.inr rfl)) (hi _ _ (.inr rfl) (.inl rfl))⟩
end Go.Proofs.YtfcjhkkpbnobhaaGreat.Nc
namespace Go.Proofs.YtfcjhkkpbnobhaaGreat.Nc
open Go Go.Proofs.YtfcjhkkpbnobhaaGreat.An
open Go.Proofs.YtfcjhkkpbnobhaaGreat.Ev hiding mn mul_bd neg_eq sq_lt sub_eq
theorem hull_in {a b:Iv} (ha:za a=true) (hb:za b=true):za (zW a b)=true/\(zW a b).lo.val<=a.lo.val/\(zW a b).lo.val<=b.lo.val/\a.hi.val<=(zW a b).hi.val/\b.hi.val<=(zW a b).hi.val/\((zW a b).lo.val=a.lo.val\/(zW a b).lo.val=b.lo.val)/\((zW a b).hi.val=a.hi.val\/(zW a b).hi.val=b.hi.val):=by
 have oa:=(zbR _).1 ha
 have ob:=(zbR _).1 hb
 have m1:=min_l a.lo b.lo
 have m2:=max_l a.hi b.hi
 simp only [zW,t_spec_HullI,Tr.get,ha,hb,Bool.not_true,cfl]
 rw [zcx (by omega)]
 exact ⟨(zbR _).2 (by simp only;omega),by simp only;omega,by simp only;omega,by simp only;omega,by simp only;omega,by simp only;omega,by simp only;omega⟩
theorem hull_ok {a b:Iv} (h:za (zW a b)=true):za a=true/\za b=true:=by
 simp only [zW,t_spec_HullI,Tr.get] at h
 cases ha:za a
 ·rw [ha] at h;simp only [Bool.not_false,ctr] at h;rw [zbn] at h;cases h
 cases hb:za b
 ·rw [ha,hb] at h;simp only [Bool.not_false,Bool.not_true,ctr,cfl] at h;rw [zbn] at h;cases h
 exact ⟨rfl,rfl⟩
theorem In.hull_l {x:Re} {a b:Iv} (h:In x a):In x (zW a b):=fun ok=>by
 obtain ⟨oa,ob⟩:=hull_ok ok
 have hv:=hull_in oa ob
 obtain ⟨h1,h2⟩:=h oa
 exact ⟨le_trans (zft.2 hv.2.1) h1,le_trans h2 (zft.2 hv.2.2.2.1)⟩
theorem In.hull_r {x:Re} {a b:Iv} (h:In x b):In x (zW a b):=fun ok=>by
 obtain ⟨oa,ob⟩:=hull_ok ok
 have hv:=hull_in oa ob
 obtain ⟨h1,h2⟩:=h ob
 exact ⟨le_trans (zft.2 hv.2.2.1) h1,le_trans h2 (zft.2 hv.2.2.2.2.1)⟩
theorem In.between {x y z:Re} {a:Iv} (h:In x a) (k:In y a) (h1:x<=z) (h2:z<=y):In z a:=fun ok=>⟨le_trans (h ok).1 h1,le_trans h2 (k ok).2⟩
theorem In.int {n:I64} (h: -268435455<=n.val/\n.val<=268435455):In (zi n.val) (zD n):=fun _=>by
 have e:(Rng.w .i64 (n.val*4294967296)).val=n.val*4294967296:=wi (by omega) (by omega)
 rw [int_val h]
 simp only [e,fx_unit]
 exact ⟨le_refl _,le_refl _⟩
theorem In.one:In 1 (zD ⟨1,rfl⟩):=In.int (n:=⟨1,rfl⟩) (by decide)
theorem int_ok {n:I64} (h: -268435455<=n.val/\n.val<=268435455):za (zD n)=true/\(zD n).lo.val=n.val*4294967296/\(zD n).hi.val=n.val*4294967296:=by
 have e:(Rng.w .i64 (n.val*4294967296)).val=n.val*4294967296:=wi (by omega) (by omega)
 rw [int_val h]
 exact ⟨(zbR _).2 (by simp only [e];omega),e,e⟩
theorem In.over {x:Re} {a:Iv} (h:In x a) {n:I64} (q:Nat) (hn:n.val=((q+1:Nat):Int)) (hq:q<=268435454):In (x*rat (1/((q+1:Nat):Rat))) (zz a (zD n)):=by
 have hb: -268435455<=n.val/\n.val<=268435455:=by omega
 have:=h.div_pos (In.int hb) (by rw [(int_ok hb).2.1];omega)
 have e:x/zi n.val=x*rat (1/((q+1:Nat):Rat)):=by
  rw [hn,zi_nat]
  have i:=inv_nat q
  have p:0<rat ((q+1:Nat):Rat):=nat_p (Nat.succ_pos q)
  refine eq_of_mul (ne_of_gt p) ?_
  rw [div_mul (ne_of_gt p)]
  generalize rat ((q+1:Nat):Rat)=u at *;generalize rat (1/((q+1:Nat):Rat))=v at *
  exact eq_by [x,u,v] (congrArg (fun t=>x * -t) i:x * -(u*v)=x * -1)
 rwa [e] at this
theorem ring_ok:za zR=true/\zR.lo.val= -4294967296/\zR.hi.val=4294967296:=⟨(zbR _).2 (by decide +kernel),rfl,rfl⟩
theorem fx_m1:fx (-4294967296)= -1:=by rw [zfU,fx_1]
theorem In.ring {x:Re} (h1: -1<=x) (h2:x<=1):In x zR:=fun _=>by
 rw [ring_ok.2.1,ring_ok.2.2,fx_m1,fx_1];exact ⟨h1,h2⟩
theorem In.tiny {x:Re} (h:An.abs x<=rat (1/4294967296)):In x zbz:=fun _=>by
 obtain ⟨a,b⟩:=zeh h
 have e1:zbz.lo.val= -1:=rfl
 have e2:zbz.hi.val=1:=rfl
 have e3:fx 1=rat (1/4294967296):=one_mul _
 rw [e1,e2,zfU,e3];exact ⟨a,b⟩
theorem meet_in (a:Iv):za (zaA a)=true /\ -4294967296<=(zaA a).lo.val/\(zaA a).hi.val<=4294967296 /\
  ((zaA a).lo.val= -4294967296\/(za a=true/\(zaA a).lo.val=a.lo.val))/\((zaA a).hi.val=4294967296\/(za a=true/\(zaA a).hi.val=a.hi.val)):=by
 have o:=ring_ok.1
 have e1:zR.lo.val= -4294967296:=rfl
 have e2:zR.hi.val=4294967296:=rfl
 simp only [zaA,t_spec_l06Meet,zcX,zeG,Tr.get,o,Bool.not_true,cfl]
 cases ha:za a
 ·simp only [Bool.not_false,Bool.not_true,ctr,cfl];exact ⟨o,by omega,by omega,.inl e1,.inl e2⟩
 have ba:=(zbR _).1 ha
 have m1:=max_l a.lo zR.lo
 have m2:=min_l a.hi zR.hi
 rw [e1] at m1
 rw [e2] at m2
 simp only [Bool.not_true,cfl]
 by_cases hlt:(zt a.lo zR.lo).val>(zB a.hi zR.hi).val
 ·simp only [hlt,decide_true,ctr,Bool.not_false];exact ⟨o,by omega,by omega,.inl e1,.inl e2⟩
 ·simp only [hlt,decide_false,cfl,Bool.not_true]
  refine ⟨(zbR _).2 (by first|omega|(simp only;omega)),by first|omega|(simp only;omega),by first|omega|(simp only;omega),?_,?_⟩
  ·simp only [true_and];omega
  ·simp only [true_and];omega
theorem In.meet {x:Re} {a:Iv} (h:In x a) (h1: -1<=x) (h2:x<=1):In x (zaA a):=fun ok=>by
 obtain ⟨_,_,_,m1,m2⟩:=meet_in a
 constructor
 ·rcases m1 with e|⟨o,e⟩
  ·rw [e,fx_m1];exact h1
  ·rw [e];exact (h o).1
 ·rcases m2 with e|⟨o,e⟩
  ·rw [e,fx_1];exact h2
  ·rw [e];exact (h o).2
def chk (n:Int):Bool:=decide ((n*7244019458077122842)%1073741824+n<=1073741824)
def chkTo:Nat->Bool
 | 0=>true
 | n+1=>chk ((n+1:Nat):Int)&&chkTo n
theorem chk_all:chkTo 4096=true:=by kernel_rfl
theorem chk_of {n:Nat} (h:chkTo n=true) {m:Int} (h1:0<m) (h2:m<=(n:Int)):(m*7244019458077122842)%1073741824+m<=1073741824:=by
 induction n with
 | zero=>exact absurd h1 (by omega)
 | succ n ih=>
  simp only [chkTo,Bool.and_eq_true] at h
  by_cases k:m=((n+1:Nat):Int)
  ·rw [k];exact of_decide_eq_true h.1
  ·exact ih h.2 (by omega)
theorem turn_val {k:I64} (h:0<k.val) (h':k.val<=4096):(zbA k).lo.val=k.val*7244019458077122842/1073741824/\(zbA k).hi.val=k.val*7244019458077122842/1073741824+1 /\
  (zbL k).lo.val=k.val*7244019458077122842/1073741824/\(zbL k).hi.val=k.val*7244019458077122842/1073741824+1:=by
 obtain ⟨e,b1,b2⟩:=turn_lo h h'
 have e0:(k.val==0)=false:=by simp;omega
 have hd:decide (k.val<0)=false:=by simp;omega
 simp only [zbA,zcG,zbL,zc7,Tr.get,e0,hd,e,cfl]
 have e1:(Rng.w .i64 (k.val*7244019458077122842/1073741824)).val=k.val*7244019458077122842/1073741824:=wi (by omega) (by omega)
 rw [e1]
 have e2:(Rng.w .i64 (k.val*7244019458077122842/1073741824+1)).val=k.val*7244019458077122842/1073741824+1:=wi (by omega) (by omega)
 exact ⟨rfl,e2,rfl,e2⟩
theorem turn_real {k:Int} (h:0<k) (h':k<=4096):fx (k*7244019458077122842/1073741824)<=qt k/\qt k<=fx (k*7244019458077122842/1073741824+1):=by
 have hk2:=chk_of chk_all (m:=k) h (by omega)
 have f1:(k*7244019458077122842/1073741824)*1073741824<=k*7244019458077122842:=by omega
 have f2:k*7244019458077122843<=(k*7244019458077122842/1073741824+1)*1073741824:=by omega
 have g1:=zi_le.2 f1
 have g2:=zi_le.2 f2
 rw [zeo,zeo] at g1 g2
 have z0:=zi_nn (show 0<=k by omega)
 have p1:=hp_lo
 have p2:=hp_hi
 unfold fx qt
 generalize zi (k*7244019458077122842/1073741824)=q at *;generalize zi (k*7244019458077122842/1073741824+1)=q' at *;generalize zi k=z at *
 rw [show zi 1073741824=rat 1073741824 from rfl] at g1 g2
 rw [show zi 7244019458077122842=rat 7244019458077122842 from rfl] at g1
 rw [show zi 7244019458077122843=rat 7244019458077122843 from rfl] at g2
 generalize hp=p at *
 exact ⟨zK [q,z,p] (pn (kn (1/4611686018427387904) (sn g1)) (mn z0 (sn p1))),zK [q',z,p] (pn (kn (1/4611686018427387904) (sn g2)) (mn z0 (sn p2)))⟩
theorem In.turn {k:I64} (h: -4096<=k.val) (h':k.val<=4096):za (zV k)=true/\fx (zV k).lo.val<=qt k.val/\qt k.val<=fx (zV k).hi.val:=by
 obtain ⟨g,e⟩:=turn_in h h'
 rw [e]
 by_cases k0:k.val=0
 ·have e0:(k.val==0)=true:=by simp [k0]
  have ev:zbA k=⟨⟨0,rfl⟩,⟨0,rfl⟩⟩:=by simp only [zbA,zcG,Tr.get,e0,ctr]
  rw [ev,k0]
  refine ⟨(zbR _).2 (by decide),?_,?_⟩
  ·show fx 0<=qt 0;rw [fx_0,qt_0];exact le_refl _
  ·show qt 0<=fx 0;rw [fx_0,qt_0];exact le_refl _
 by_cases kp:0<k.val
 ·obtain ⟨v1,v2,_,_⟩:=turn_val kp h'
  obtain ⟨r1,r2⟩:=turn_real kp h'
  refine ⟨(zbR _).2 ?_,by rw [v1];exact r1,by rw [v2];exact r2⟩
  rw [v1,v2];omega
 ·have en:(Rng.w .i64 (0-k.val)).val= -k.val:=by rw [wi (by omega) (by omega)];omega
  obtain ⟨_,_,v1,v2⟩:=turn_val (k:= .w .i64 (0-k.val)) (by rw [en];omega) (by rw [en];omega)
  obtain ⟨r1,r2⟩:=turn_real (k:= -k.val) (by omega) (by omega)
  rw [en] at v1 v2
  have e0:(k.val==0)=false:=by simp [k0]
  have hd:decide (k.val<0)=true:=by simp;omega
  obtain ⟨x,h1,h2,h3⟩:=turn_p (.w .i64 (0-k.val)) (by rw [en];omega) (by rw [en];omega)
  have g1:zdQ (.w .i64 (0-k.val))=true:=by unfold zdQ;rw [h1];rfl
  have w1:(Rng.w .i64 (0-(zbL (.w .i64 (0-k.val))).hi.val)).val= -(-k.val*7244019458077122842/1073741824+1):=by rw [v2,wi (by omega) (by omega)];omega
  have w2:(Rng.w .i64 (0-(zbL (.w .i64 (0-k.val))).lo.val)).val= -(-k.val*7244019458077122842/1073741824):=by rw [v1,wi (by omega) (by omega)];omega
  have ev:zbA k=⟨.w .i64 (0-(zbL (.w .i64 (0-k.val))).hi.val),.w .i64 (0-(zbL (.w .i64 (0-k.val))).lo.val)⟩:=by
   simp only [zbA,zcG,Tr.get,e0,hd,g1,ctr,cfl]
  rw [ev]
  simp only [w1,w2]
  have qn':=qt_neg k.val
  rw [qn'] at r1 r2
  refine ⟨(zbR _).2 (by simp only [w1,w2];omega),?_,?_⟩
  ·rw [zfU];generalize fx (-k.val*7244019458077122842/1073741824+1)=u at *;generalize qt k.val=v at *;exact zK [u,v] (sn r2)
  ·rw [zfU];generalize fx (-k.val*7244019458077122842/1073741824)=u at *;generalize qt k.val=v at *;exact zK [u,v] (sn r1)
theorem In.turn' {k:I64} (h: -4096<=k.val) (h':k.val<=4096):In (qt k.val) (zV k):=fun _=>(In.turn h h').2
def rad (n:Int):Re:=zi n*(hp*rat (1/900000000))
theorem rad_neg (n:Int):rad (-n)= - rad n:=by unfold rad;rw [zi_neg,An.neg_mul]
theorem rad_add (m n:Int):rad (m+n)=rad m+rad n:=by unfold rad;rw [zi_add,An.add_mul]
theorem rad_0:rad 0=0:=An.zero_mul _
theorem rad_real {n:Int} (h:0<n):fx (n*7244019458077122842/966367641600000000)<=rad n/\rad n<=fx (n*7244019458077122843/966367641600000000+1):=by
 have f1:(n*7244019458077122842/966367641600000000)*966367641600000000<=n*7244019458077122842:=by omega
 have f2:n*7244019458077122843<=(n*7244019458077122843/966367641600000000+1)*966367641600000000:=by omega
 have g1:=zi_le.2 f1
 have g2:=zi_le.2 f2
 rw [zeo,zeo] at g1 g2
 have z0:=zi_nn (show 0<=n by omega)
 have p1:=hp_lo
 have p2:=hp_hi
 unfold fx rad
 generalize zi (n*7244019458077122842/966367641600000000)=q at *;generalize zi (n*7244019458077122843/966367641600000000+1)=q' at *;generalize zi n=z at *
 rw [show zi 966367641600000000=rat 966367641600000000 from rfl] at g1 g2
 rw [show zi 7244019458077122842=rat 7244019458077122842 from rfl] at g1
 rw [show zi 7244019458077122843=rat 7244019458077122843 from rfl] at g2
 generalize hp=p at *
 exact ⟨zK [q,z,p] (pn (kn (1/4150517416584649113600000000) (sn g1)) (kn (1/900000000) (mn z0 (sn p1)))),zK [q',z,p] (pn (kn (1/4150517416584649113600000000) (sn g2)) (kn (1/900000000) (mn z0 (sn p2))))⟩
theorem rad_val {n:I64} (h:0<n.val) (h':n.val<=36000000000):((zaa n).lo.val=n.val*7244019458077122842/966367641600000000/\(zaa n).hi.val=n.val*7244019458077122843/966367641600000000+1) /\
  ((zco n).lo.val=n.val*7244019458077122842/966367641600000000/\(zco n).hi.val=n.val*7244019458077122843/966367641600000000+1)/\zd0 n=true:=by
 have e0:(n.val==0)=false:=by simp;omega
 have hd:decide (n.val<0)=false:=by simp;omega
 have hi:zar n ⟨(-36000000000),rfl⟩ ⟨36000000000,rfl⟩=true:=by rw [zeF];simp;omega
 have m1:zaS n ⟨7244019458077122842,rfl⟩ ⟨966367641600000000,rfl⟩=⟨.w .i64 (n.val*7244019458077122842/966367641600000000),true⟩:=by
  rw [ze8,MD,if_pos (by decide)];exact narrow_ok (by simp only;omega) (by simp only;omega)
 have m2:zaS n ⟨7244019458077122843,rfl⟩ ⟨966367641600000000,rfl⟩=⟨.w .i64 (n.val*7244019458077122843/966367641600000000),true⟩:=by
  rw [ze8,MD,if_pos (by decide)];exact narrow_ok (by simp only;omega) (by simp only;omega)
 have w1:(Rng.w .i64 (n.val*7244019458077122842/966367641600000000)).val=n.val*7244019458077122842/966367641600000000:=wi (by omega) (by omega)
 have w2:(Rng.w .i64 (n.val*7244019458077122843/966367641600000000)).val=n.val*7244019458077122843/966367641600000000:=wi (by omega) (by omega)
 have w3:(Rng.w .i64 (n.val*7244019458077122843/966367641600000000+1)).val=n.val*7244019458077122843/966367641600000000+1:=wi (by omega) (by omega)
 refine ⟨?_,?_,?_⟩
 ·simp only [zaa,zbJ,Tr.get,hi,e0,hd,m1,m2,md_G_spec,ctr,cfl,Bool.not_true,w1,w2,w3,and_self]
 ·simp only [zco,zbS,Tr.get,hi,e0,hd,m1,m2,md_G_spec,ctr,cfl,Bool.not_true,w1,w2,w3,and_self]
 ·simp only [zd0,zbS,Tr.opt,hi,e0,hd,m1,m2,md_G_spec,ctr,cfl,Bool.not_true,Option.isSome]
theorem In.rad {n:I64}:In (rad n.val) (zaa n):=by
 by_cases hr: -36000000000<=n.val/\n.val<=36000000000
 ·have hi:zar n ⟨(-36000000000),rfl⟩ ⟨36000000000,rfl⟩=true:=by rw [zeF];simpa using hr
  by_cases k0:n.val=0
  ·have e0:(n.val==0)=true:=by simp [k0]
   have ev:zaa n=⟨⟨0,rfl⟩,⟨0,rfl⟩⟩:=by simp only [zaa,zbJ,Tr.get,hi,e0,ctr,cfl,Bool.not_true]
   rw [ev,k0]
   intro _
   show fx 0<=Nc.rad 0/\Nc.rad 0<=fx 0
   rw [fx_0,rad_0];exact ⟨le_refl _,le_refl _⟩
  by_cases kp:0<n.val
  ·intro _
   rw [(rad_val kp hr.2).1.1,(rad_val kp hr.2).1.2]
   exact rad_real kp
  ·have en:(Rng.w .i64 (0-n.val)).val= -n.val:=by rw [wi (by omega) (by omega)];omega
   obtain ⟨_,⟨v1,v2⟩,g⟩:=rad_val (n:= .w .i64 (0-n.val)) (by rw [en];omega) (by rw [en];omega)
   have e0:(n.val==0)=false:=by simp [k0]
   have hd:decide (n.val<0)=true:=by simp;omega
   simp only [zaa,zbJ,Tr.get,hi,e0,hd,g,ctr,cfl,Bool.not_true]
   have:In (Nc.rad (-n.val)) (zco (.w .i64 (0-n.val))):=fun _=>by
    rw [v1,v2,en];exact rad_real (by omega)
   have:=this.neg
   rw [rad_neg] at this
   rwa [show - - Nc.rad n.val=Nc.rad n.val from by generalize Nc.rad n.val=u;exact An.ring [u]] at this
 ·have hi:zar n ⟨(-36000000000),rfl⟩ ⟨36000000000,rfl⟩=false:=by rw [zeF];simpa using hr
  simp only [zaa,zbJ,Tr.get,hi,Bool.not_false,ctr,zcz]
  exact In.whole _
end Go.Proofs.YtfcjhkkpbnobhaaGreat.Nc
namespace Go.Proofs.YtfcjhkkpbnobhaaGreat.Nc
open Go Go.Proofs.YtfcjhkkpbnobhaaGreat.An
open Go.Proofs.YtfcjhkkpbnobhaaGreat.Ev hiding mn mul_bd neg_eq sq_lt sub_eq
theorem In.over' {x:Re} {a:Iv} (h:In x a) {n:I64} (q:Nat) (r:Rat) (hn:n.val=((q+1:Nat):Int):=by kernel_rfl) (hq:decide (q<=268435454)=true:=by kernel_rfl) (hr:1/((q+1:Nat):Rat)=r:=by kernel_rfl):In (x*rat r) (zz a (zD n)):=by
 rw [<- hr];exact h.over q hn (of_decide_eq_true hq)
theorem In.series0 {y:Re} {a:Iv} (h:In y a):In (1-y*rat (1/6)*(1-y*rat (1/20)*(1-y*rat (1/42)*(1-y*rat (1/72)*(1-y*rat (1/110)*(1-y*rat (1/156)*(1-y*rat (1/210)*(1-y*rat (1/272)*1)))))))) (zaY a ⟨0,rfl⟩):=by
 simp only [zaY,zct,Tr.get]
 exact (In.sub In.one (In.mul (h.over' 5 (1/6)) (In.sub In.one (In.mul (h.over' 19 (1/20)) (In.sub In.one (In.mul (h.over' 41 (1/42)) (In.sub In.one (In.mul (h.over' 71 (1/72)) (In.sub In.one (In.mul (h.over' 109 (1/110)) (In.sub In.one (In.mul (h.over' 155 (1/156)) (In.sub In.one (In.mul (h.over' 209 (1/210)) (In.sub In.one (In.mul (h.over' 271 (1/272)) In.one))))))))))))))))
theorem In.series1 {y:Re} {a:Iv} (h:In y a):In (1-y*rat (1/2)*(1-y*rat (1/12)*(1-y*rat (1/30)*(1-y*rat (1/56)*(1-y*rat (1/90)*(1-y*rat (1/132)*(1-y*rat (1/182)*(1-y*rat (1/240)*1)))))))) (zaY a ⟨-1,rfl⟩):=by
 simp only [zaY,zct,Tr.get]
 exact (In.sub In.one (In.mul (h.over' 1 (1/2)) (In.sub In.one (In.mul (h.over' 11 (1/12)) (In.sub In.one (In.mul (h.over' 29 (1/30)) (In.sub In.one (In.mul (h.over' 55 (1/56)) (In.sub In.one (In.mul (h.over' 89 (1/90)) (In.sub In.one (In.mul (h.over' 131 (1/132)) (In.sub In.one (In.mul (h.over' 181 (1/182)) (In.sub In.one (In.mul (h.over' 239 (1/240)) In.one))))))))))))))))
theorem ring_in {a:Iv} (h:zaZ a zR=true):za a=true /\ -4294967296<=a.lo.val/\a.hi.val<=4294967296:=by
 have e1:zR.lo.val= -4294967296:=rfl
 have e2:zR.hi.val=4294967296:=rfl
 simp only [zaZ,zd7,Tr.get,ring_ok.1,Bool.not_true,cfl,e1,e2] at h
 revert h
 cases za a<;>by_cases h1: -4294967296<=a.lo.val<;>simp [h1,ctr,cfl]
theorem In.abs1 {x:Re} {a:Iv} (h:In x a) (k:zaZ a zR=true):An.abs x<=1:=by
 obtain ⟨o,k1,k2⟩:=ring_in k
 obtain ⟨h1,h2⟩:=h o
 have l1:=zft.2 k1
 have l2:=zft.2 k2
 rw [fx_m1] at l1
 rw [fx_1] at l2
 exact zfV (le_trans l1 h1) (le_trans h2 l2)
theorem In.sinS {x:Re} {a:Iv} (h:In x a):In (sin x) (zbb a):=by
 simp only [zbb,zdK,Tr.get,zcz]
 cases hi:zaZ a zR
 ·exact In.whole _
 simp only [Bool.not_true,cfl]
 have e:=le_trans (sin_horner (h.abs1 hi)) (num_le _ (1/4294967296))
 have:=(h.mul h.sqr.series0).add (In.tiny e)
 generalize x*(1-(x*x)*rat (1/6)*(1-(x*x)*rat (1/20)*(1-(x*x)*rat (1/42)*(1-(x*x)*rat (1/72)*(1-(x*x)*rat (1/110)*(1-(x*x)*rat (1/156)*(1-(x*x)*rat (1/210)*(1-(x*x)*rat (1/272)*1))))))))=u at *;generalize sin x=s at *
 rwa [show u+(s-u)=s from An.ring [u,s]] at this
theorem In.cosS {x:Re} {a:Iv} (h:In x a):In (cos x) (zbc a):=by
 simp only [zbc,zdM,Tr.get,zcz]
 cases hi:zaZ a zR
 ·exact In.whole _
 simp only [Bool.not_true,cfl]
 have e:=le_trans (cos_horner (h.abs1 hi)) (num_le _ (1/4294967296))
 have:=h.sqr.series1.add (In.tiny e)
 generalize (1-(x*x)*rat (1/2)*(1-(x*x)*rat (1/12)*(1-(x*x)*rat (1/30)*(1-(x*x)*rat (1/56)*(1-(x*x)*rat (1/90)*(1-(x*x)*rat (1/132)*(1-(x*x)*rat (1/182)*(1-(x*x)*rat (1/240)*1))))))))=u at *;generalize cos x=s at *
 rwa [show u+(s-u)=s from An.ring [u,s]] at this
def and4 (x:Int):Bool:=(Rng.w .i64 (zbf .and .i64 (Rng.w .i64 x).val 3)).val==x%4
def and4To:Nat->Bool
 | 0=>and4 0
 | n+1=>and4 (n+1:Nat)&&(and4 (-((n+1:Nat):Int))&&and4To n)
theorem and4_all:and4To 600=true:=by kernel_rfl
theorem and4_of {n:Nat} (h:and4To n=true) {m:Int} (h1: -(n:Int)<=m) (h2:m<=n):(Rng.w .i64 (zbf .and .i64 (Rng.w .i64 m).val 3)).val=m%4:=by
 induction n with
 | zero=>
  have:m=0:=by omega
  subst this
  exact eq_of_beq h
 | succ n ih=>
  simp only [and4To,Bool.and_eq_true] at h
  by_cases k1:m=((n+1:Nat):Int)
  ·have:=h.1
   rw [<- k1] at this
   exact eq_of_beq this
  by_cases k2:m= -((n+1:Nat):Int)
  ·have:=h.2.1
   rw [<- k2] at this
   exact eq_of_beq this
  exact ih h.2.2 (by omega) (by omega)
theorem and4_eq {m:Int} (h1: -600<=m) (h2:m<=600):(Rng.w .i64 (zbf .and .i64 (Rng.w .i64 m).val 3)).val=m%4:=and4_of and4_all h1 h2
theorem sin_in (x:Re): -1<=sin x/\sin x<=1:=⟨sin_gem1 x,sin_le1 x⟩
theorem In.at {n t:I64} (ht:0<=t.val/\t.val<=3):In (sin (fx n.val+qt t.val)) (zbB n t):=by
 have hs:=sin_in (fx n.val+qt t.val)
 simp only [zbB,t_spec_l06At,Tr.get]
 cases za0 n
 ·exact In.ring hs.1 hs.2
 have hb:=quarter_bd n
 have h4:=and4_eq (m:=(zao n).val+t.val) (by omega) (by omega)
 have hk:In (fx n.val-qt (zao n).val) (zQ (zq n) (zV (zao n))):=by
  refine In.sub ?_ (In.turn' (by omega) (by omega))
  simp only [zq,zfG,Tr.get]
  exact In.point
 simp only [Bool.not_true,cfl,h4]
 generalize zQ (zq n) (zV (zao n))=c at hk
 have e:fx n.val+qt t.val=(fx n.val-qt (zao n).val)+qt ((zao n).val+t.val):=by
  rw [qt_add];generalize fx n.val=u;generalize qt (zao n).val=v;generalize qt t.val=w;exact An.ring [u,v,w]
 rw [e] at hs ⊢
 generalize fx n.val-qt (zao n).val=r at *
 generalize (zao n).val+t.val=k at *
 have hk4:k%4=0\/k%4=1\/k%4=2\/k%4=3:=by omega
 rcases hk4 with h|h|h|h
 ·have e0:(k%4==0)=true:=by simp [h]
  simp only [e0,ctr]
  rw [sin_q0 r h] at hs ⊢
  exact hk.sinS.meet hs.1 hs.2
 ·have e0:(k%4==0)=false:=by simp [h]
  have e1:(k%4==1)=true:=by simp [h]
  simp only [e0,e1,ctr,cfl]
  rw [sin_q1 r h] at hs ⊢
  exact hk.cosS.meet hs.1 hs.2
 ·have e0:(k%4==0)=false:=by simp [h]
  have e1:(k%4==1)=false:=by simp [h]
  have e2:(k%4==2)=true:=by simp [h]
  simp only [e0,e1,e2,ctr,cfl]
  rw [sin_q2 r h] at hs ⊢
  exact hk.sinS.neg.meet hs.1 hs.2
 ·have e0:(k%4==0)=false:=by simp [h]
  have e1:(k%4==1)=false:=by simp [h]
  have e2:(k%4==2)=false:=by simp [h]
  simp only [e0,e1,e2,cfl]
  rw [sin_q3 r h] at hs ⊢
  exact hk.cosS.neg.meet hs.1 hs.2
theorem ring_bd:za zR=true /\ -4294967296<=zR.lo.val/\zR.hi.val<=4294967296:=⟨ring_ok.1,by rw [ring_ok.2.1];decide,by rw [ring_ok.2.2];decide⟩
theorem at_in (n t:I64):za (zbB n t)=true /\ -4294967296<=(zbB n t).lo.val/\(zbB n t).hi.val<=4294967296:=by
 have m:∀a,za (zaA a)=true /\ -4294967296<=(zaA a).lo.val/\(zaA a).hi.val<=4294967296:=fun a=>⟨(meet_in a).1,(meet_in a).2.1,(meet_in a).2.2.1⟩
 simp only [zbB,t_spec_l06At,Tr.get]
 cases za0 n
 ·exact ring_bd
 simp only [Bool.not_true,cfl]
 generalize ((Rng.w .i64 (zbf .and .i64 (Rng.w .i64 ((zao n).val+t.val)).val 3)).val==0)=c0
 generalize ((Rng.w .i64 (zbf .and .i64 (Rng.w .i64 ((zao n).val+t.val)).val 3)).val==1)=c1
 generalize ((Rng.w .i64 (zbf .and .i64 (Rng.w .i64 ((zao n).val+t.val)).val 3)).val==2)=c2
 cases c0<;>cases c1<;>cases c2<;>exact m _
theorem quarter_all {n:I64} (h: -1099511627776<=n.val/\n.val<=1099511627776):(zao n).val=(n.val+3373259426)/6746518852:=by
 have ha:za0 n=true:=by simp only [za0,zdA,Tr.get,zeF];simpa using h
 have hb:=h
 have e1:(Rng.w .i64 (n.val+3373259426)).val=n.val+3373259426:=wi (by omega) (by omega)
 have hs:Int.sign 6746518852=1:=rfl
 have ht:=Int.tdiv_eq_ediv (a:=n.val+3373259426) (b:=6746518852)
 have q1:(Rng.w .i64 ((n.val+3373259426).tdiv 6746518852)).val=(n.val+3373259426).tdiv 6746518852:=by
  refine wi ?_ ?_<;>(split at ht<;>omega)
 have hm:=Int.mul_tdiv_add_tmod (n.val+3373259426) 6746518852
 have m1:(Rng.w .i64 ((n.val+3373259426).tmod 6746518852)).val=(n.val+3373259426).tmod 6746518852:=by
  refine wi ?_ ?_<;>(split at ht<;>omega)
 have z:((6746518852:Int)==0)=false:=rfl
 simp only [zao,zdL,Tr.get,ha,Bool.not_true,cfl,G_spec_l06Floor,F_spec_l06Floor,zfF,Tr.opt,Tr.get,e1,q1,m1,z]
 by_cases hc:(n.val+3373259426).tmod 6746518852<0
 ·have w1:(Rng.w .i64 ((n.val+3373259426).tdiv 6746518852-1)).val=(n.val+3373259426).tdiv 6746518852-1:=by
   refine wi ?_ ?_<;>(split at ht<;>omega)
  simp only [hc,decide_true,ctr,Option.isSome_some,w1]
  split at ht<;>omega
 ·simp only [hc,decide_false,cfl,ctr,Option.isSome_some,q1]
  split at ht<;>omega
theorem overlap_of {a b:Iv} (ha:za a=true) (hb:za b=true) (h1:a.lo.val<=b.hi.val) (h2:b.lo.val<=a.hi.val):za7 a b=true:=by
 have oa:=(zbR _).1 ha
 have ob:=(zbR _).1 hb
 have m1:=max_l a.lo b.lo
 have m2:=min_l a.hi b.hi
 have hn:¬(zt a.lo b.lo).val>(zB a.hi b.hi).val:=by omega
 simp only [za7,zes,zcX,zeG,Tr.get,ha,hb,Bool.not_true,cfl,hn,decide_false]
theorem keepF_mem (x:Iv) (k':I64) (h1:k'.val<=(k1 x).val) (h2:za7 (zV k') x=true) (h3:(k1 x).val<=1000):
  ∀(n:Nat) (k:I64),-1000<=k.val->k.val<=k'.val->k'.val-k.val<n->k'∈keepF x n k:=by
 intro n
 induction n with
 | zero=>intro k _ _ h;omega
 | succ n ih=>
  intro k hl hk hn
  have hd:decide (k.val<=(k1 x).val)=true:=by simp;omega
  have en:(Rng.w .i64 (k.val+1)).val=k.val+1:=wi (by omega) (by omega)
  simp only [keepF,hd,ctr,overlap_eq,turnI_eq]
  by_cases e:k.val=k'.val
  ·have e':k=k':=Rng.ext e
   subst e'
   simp only [h2,ctr]
   exact List.mem_cons_self ..
  ·have:=ih (.w .i64 (k.val+1)) (by omega) (by omega) (by omega)
   cases za7 (zV k) x
   ·exact this
   ·exact List.mem_cons_of_mem _ this
theorem one_val:za (zD ⟨1,rfl⟩)=true/\(zD ⟨1,rfl⟩).lo.val=4294967296/\(zD ⟨1,rfl⟩).hi.val=4294967296:=int_ok (n:=⟨1,rfl⟩) (by decide)
theorem mone_val:za (zD ⟨-1,rfl⟩)=true/\(zD ⟨-1,rfl⟩).lo.val= -4294967296/\(zD ⟨-1,rfl⟩).hi.val= -4294967296:=int_ok (n:=⟨-1,rfl⟩) (by decide)
theorem hullF_in (t:I64):∀(L:List I64) (o:Iv),za o=true->za (hullF t L o)=true/\(hullF t L o).lo.val<=o.lo.val/\o.hi.val<=(hullF t L o).hi.val /\
  (∀k∈L,(turn4 t k).val=1->4294967296<=(hullF t L o).hi.val)/\(∀k∈L,(turn4 t k).val=3->(hullF t L o).lo.val <= -4294967296):=by
 intro L
 induction L with
 | nil=>intro o ho;exact ⟨ho,Int.le_refl _,Int.le_refl _,(fun k h=>by cases h),(fun k h=>by cases h)⟩
 | cons k L ih=>
  intro o ho
  simp only [hullF,hull_eq,integer_eq]
  by_cases c1:(turn4 t k).val=1
  ·have e1:((turn4 t k).val==1)=true:=by simp [c1]
   simp only [e1,ctr]
   have hv:=hull_in ho one_val.1
   obtain ⟨i1,i2,i3,i4,i5⟩:=ih _ hv.1
   have o1:=one_val.2.2
   refine ⟨i1,by omega,by omega,fun j hj h=>?_,fun j hj h=>?_⟩
   ·rcases List.mem_cons.1 hj with rfl|hj
    ·omega
    ·exact i4 j hj h
   ·rcases List.mem_cons.1 hj with rfl|hj
    ·omega
    ·exact i5 j hj h
  ·have e1:((turn4 t k).val==1)=false:=by simp [c1]
   simp only [e1,cfl]
   by_cases c3:(turn4 t k).val=3
   ·have e3:((turn4 t k).val==3)=true:=by simp [c3]
    simp only [e3,ctr]
    have hv:=hull_in ho mone_val.1
    obtain ⟨i1,i2,i3,i4,i5⟩:=ih _ hv.1
    have o1:=mone_val.2.1
    refine ⟨i1,by omega,by omega,fun j hj h=>?_,fun j hj h=>?_⟩
    ·rcases List.mem_cons.1 hj with rfl|hj
     ·omega
     ·exact i4 j hj h
    ·rcases List.mem_cons.1 hj with rfl|hj
     ·omega
     ·exact i5 j hj h
   ·have e3:((turn4 t k).val==3)=false:=by simp [c3]
    simp only [e3,cfl]
    obtain ⟨i1,i2,i3,i4,i5⟩:=ih _ ho
    refine ⟨i1,by omega,by omega,fun j hj h=>?_,fun j hj h=>?_⟩
    ·rcases List.mem_cons.1 hj with rfl|hj
     ·omega
     ·exact i4 j hj h
    ·rcases List.mem_cons.1 hj with rfl|hj
     ·omega
     ·exact i5 j hj h
theorem qt_ge {k a:Int} (h:fx a<=qt k):(0<=k/\a*1073741824<=k*7244019458077122843)\/(k<0/\a*1073741824<=k*7244019458077122842):=by
 have p1:=hp_lo
 have p2:=hp_hi
 by_cases hk:0<=k
 ·left;refine ⟨hk,zi_le.1 ?_⟩
  have z0:=zi_nn hk
  rw [zeo,zeo,show zi 1073741824=rat 1073741824 from rfl,show zi 7244019458077122843=rat 7244019458077122843 from rfl]
  unfold fx qt at h
  generalize zi k=z at *;generalize zi a=u at *;generalize hp=p at *
  exact zK [u,z,p] (pn (kn 4611686018427387904 (sn h)) (kn 4611686018427387904 (mn z0 (sn p2))))
 ·right;refine ⟨by omega,zi_le.1 ?_⟩
  have z0:=zi_le.2 (show k<=0 by omega)
  rw [zi_0] at z0
  rw [zeo,zeo,show zi 1073741824=rat 1073741824 from rfl,show zi 7244019458077122842=rat 7244019458077122842 from rfl]
  unfold fx qt at h
  generalize zi k=z at *;generalize zi a=u at *;generalize hp=p at *
  exact zK [u,z,p] (pn (kn 4611686018427387904 (sn h)) (kn 4611686018427387904 (mn (neg_nn z0) (sn p1))))
theorem qt_le {k b:Int} (h:qt k<=fx b):(0<=k/\k*7244019458077122842<=b*1073741824)\/(k<0/\k*7244019458077122843<=b*1073741824):=by
 have e:fx (-b)<=qt (-k):=by rw [zfU,qt_neg];generalize fx b=u at *;generalize qt k=v at *;exact zK [u,v] (sn h)
 have:=qt_ge e
 omega
theorem In.over06 {x:Re} {a:Iv} (h:In x a) {t:I64} (ht:0<=t.val/\t.val<=3):In (sin (x+qt t.val)) (zfo a t):=by
 have hs:=sin_in (x+qt t.val)
 rw [<- over_eq]
 unfold za1
 rw [fits_eq,ring_eq]
 cases hf:zdp a
 ·exact In.ring hs.1 hs.2
 simp only [Bool.not_true,cfl]
 have hfit:za a=true/\(-1099511627776<=a.lo.val/\a.lo.val<=1099511627776)/\(-1099511627776<=a.hi.val/\a.hi.val<=1099511627776):=by
  simp only [zdp,t_spec_l06Fits,Tr.get,zem,zei,za0,zdA,zeF] at hf
  revert hf
  cases za a<;>by_cases c1: -1099511627776<=a.lo.val/\a.lo.val<=1099511627776<;>by_cases c2: -1099511627776<=a.hi.val/\a.hi.val<=1099511627776<;>simp [c1,c2,ctr,cfl]
 obtain ⟨oa,⟨l1,l2⟩,⟨u1,u2⟩⟩:=hfit
 obtain ⟨h1,h2⟩:=h oa
 have ho:o0 a t=zW (zbB a.lo t) (zbB a.hi t):=by unfold o0;rw [hull_eq,circle_eq,circle_eq]
 have v1:=at_in a.lo t
 have v2:=at_in a.hi t
 have hv:=hull_in v1.1 v2.1
 rw [ho]
 obtain ⟨i1,i2,i3,i4,i5⟩:=hullF_in t (keepF a 1000 (k0 a)) _ hv.1
 have a1:=In.at (n:=a.lo) ht v1.1
 have a2:=In.at (n:=a.hi) ht v2.1
 have kb:=k_bd a
 have q0:(k0 a).val=(a.lo.val+3373259426)/6746518852-1:=by
  have qb:=quarter_bd a.lo
  unfold k0;rw [quarter_eq,wi (by omega) (by omega),quarter_all ⟨l1,l2⟩]
 have q1:(k1 a).val=(a.hi.val+3373259426)/6746518852+1:=by
  have qb:=quarter_bd a.hi
  unfold k1;rw [quarter_eq,wi (by omega) (by omega),quarter_all ⟨u1,u2⟩]
 have mem:∀j:Int,fx a.lo.val<=qt j->qt j<=fx a.hi.val->∃k:I64,k.val=j/\k∈keepF a 1000 (k0 a)/\(turn4 t k).val=(j+t.val)%4:=fun j j1 j2=>by
  have g1:=qt_ge j1
  have g2:=qt_le j2
  have jb: -200<=j/\j<=200:=by omega
  have ek:(Rng.w .i64 j).val=j:=wi (by omega) (by omega)
  refine ⟨.w .i64 j,ek,?_,?_⟩
  ·obtain ⟨t1,t2,t3⟩:=In.turn (k:= .w .i64 j) (by omega) (by omega)
   rw [ek] at t2 t3
   refine keepF_mem a _ (by omega) (overlap_of t1 oa (zft.1 (le_trans t2 j2)) (zft.1 (le_trans j1 t3))) (by omega) 1000 (k0 a) (by omega) (by omega) (by omega)
  ·unfold turn4;rw [ek];exact and4_eq (by omega) (by omega)
 intro _
 have mv:∀ {p q:Re},p<=q->∀j:Int,p+qt t.val<=qt j->p<=qt (j-t.val):=fun {p q} _ j hj=>by
  have e:=qt_add (j-t.val) t.val
  rw [show j-t.val+t.val=j by omega] at e
  rw [e] at hj
  generalize qt (j-t.val)=u at *;generalize qt t.val=v at *
  exact zK [p,u,v] (sn hj)
 have mv':∀ {p:Re},∀j:Int,qt j<=p+qt t.val->qt (j-t.val)<=p:=fun {p} j hj=>by
  have e:=qt_add (j-t.val) t.val
  rw [show j-t.val+t.val=j by omega] at e
  rw [e] at hj
  generalize qt (j-t.val)=u at *;generalize qt t.val=v at *
  exact zK [p,u,v] (sn hj)
 constructor
 ·rcases sin_bottom (add_le h1 (le_refl (qt t.val))) (add_le h2 (le_refl (qt t.val))) with c|c|⟨j,j4,j1,j2⟩
  ·exact le_trans (le_trans (zft.2 (Int.le_trans i2 hv.2.1)) a1.1) c
  ·exact le_trans (le_trans (zft.2 (Int.le_trans i2 hv.2.2.1)) a2.1) c
  ·obtain ⟨k,k1',k2,k3⟩:=mem (j-t.val) (mv (le_refl (fx a.lo.val)) j j1) (mv' j j2)
   have:=i5 k k2 (by omega)
   refine le_trans ?_ hs.1
   rw [<- fx_m1];exact zft.2 this
 ·rcases sin_top (add_le h1 (le_refl (qt t.val))) (add_le h2 (le_refl (qt t.val))) with c|c|⟨j,j4,j1,j2⟩
  ·exact le_trans c (le_trans a1.2 (zft.2 (Int.le_trans hv.2.2.2.1 i3)))
  ·exact le_trans c (le_trans a2.2 (zft.2 (Int.le_trans hv.2.2.2.2.1 i3)))
  ·obtain ⟨k,k1',k2,k3⟩:=mem (j-t.val) (mv (le_refl (fx a.lo.val)) j j1) (mv' j j2)
   have:=i4 k k2 (by omega)
   refine le_trans hs.2 ?_
   rw [<- fx_1];exact zft.2 this
theorem In.sin {x:Re} {a:Iv} (h:In x a):In (An.sin x) (zb5 a):=by
 have:=h.over06 (t:=⟨0,rfl⟩) (by decide)
 rw [show ((⟨0,rfl⟩:I64).val)=0 from rfl,qt_0,An.add_zero] at this
 simp only [zb5,t_spec_SinI,Tr.get]
 exact this
theorem In.cos {x:Re} {a:Iv} (h:In x a):In (An.cos x) (zbD a):=by
 have:=h.over06 (t:=⟨1,rfl⟩) (by decide)
 rw [show ((⟨1,rfl⟩:I64).val)=1 from rfl,sin_q1 x (by decide)] at this
 simp only [zbD,t_spec_CosI,Tr.get]
 exact this
end Go.Proofs.YtfcjhkkpbnobhaaGreat.Nc
namespace Go.Proofs.YtfcjhkkpbnobhaaGreat.Nc
open Go Go.Proofs.YtfcjhkkpbnobhaaGreat.An
open Go.Proofs.YtfcjhkkpbnobhaaGreat.Ev hiding mn mul_bd neg_eq sq_lt sub_eq
theorem divdown_neg {x y:I64} (hy:y.val<0) (h:(zG x y).b=true):(zG x y).a.val= -x.val*4294967296 / -y.val:=by
 have z0:(y.val==0)=false:=by simp;omega
 have z1:decide (y.val<0)=true:=by simpa using hy
 simp only [zG,zby,Tr.get,ze8,z0,z1,ctr,cfl] at h ⊢
 cases h1:zF x
 ·rw [h1] at h;simp [ctr] at h
 cases h2:zF y
 ·rw [h1,h2] at h;simp [ctr,cfl] at h
 have bx:=ok_bd h1
 have by':=ok_bd h2
 have ex:(Rng.w .i64 (0-x.val)).val= -x.val:=by rw [wi (by omega) (by omega)];omega
 have ey:(Rng.w .i64 (0-y.val)).val= -y.val:=by rw [wi (by omega) (by omega)];omega
 rw [h1,h2] at h
 have hp:0 < -y.val:=by omega
 simp only [Bool.not_true,cfl,MD,ex,ey,hp,if_true] at h ⊢
 unfold narrow at h ⊢
 split at h
 ·rename_i hr
  rw [if_pos hr]
  rcases end_cases (.w .i64 (-x.val*4294967296 / -y.val)) true with e|⟨e,_⟩
  ·rw [e] at h;cases h
  ·rw [e];exact wi hr.1 hr.2
 ·have:(zat (.w .i64 0) false).b=false:=by simp only [zat,zch,Tr.get,Bool.not_false,ctr]
  rw [this] at h;cases h
theorem divup_neg {x y:I64} (hy:y.val<0) (h:(z8 x y).b=true):(z8 x y).a.val= -(x.val*4294967296 / -y.val):=by
 simp only [z8,zcR,Tr.get] at h ⊢
 cases h1:zF x
 ·rw [h1] at h;simp [ctr] at h
 rw [h1] at h
 simp only [Bool.not_true,cfl] at h ⊢
 have hb:=ok_bd h1
 have e:=divdown_neg hy h
 have en:(Rng.w .i64 (0-x.val)).val= -x.val:=by rw [wi (by omega) (by omega)];omega
 rw [en,Int.neg_neg] at e
 rcases zeT (.w .i64 (0-x.val)) y with k|⟨c,k,kc⟩
 ·rw [k] at h;cases h
 ·have kb:=ok_bd kc
  rw [k] at e ⊢
  simp only at e ⊢
  rw [wi (by omega) (by omega)]
  omega
theorem divI_corner_neg {a b:Iv} (h0:b.hi.val<0) (h:za (zz a b)=true):za a=true/\za b=true /\
  ∀x y:I64,(x=a.lo\/x=a.hi)->(y=b.lo\/y=b.hi)->(zz a b).lo.val <= -x.val*4294967296 / -y.val /\ -(x.val*4294967296 / -y.val)<=(zz a b).hi.val:=by
 have nw:∀ {P:Prop},za zo=true->P:=fun h=>by rw [zbn] at h;cases h
 simp only [zz,zfM,Tr.get] at h ⊢
 cases ha:za a
 ·rw [ha] at h;exact nw h
 cases hb:za b
 ·rw [ha,hb] at h;exact nw h
 have bb:=(zbR _).1 hb
 have h0':b.lo.val<0:=by omega
 cases hz:zaO b ⟨0,rfl⟩
 case true=>rw [ha,hb,hz] at h;exact nw h
 simp only [ha,hb,hz,Bool.not_true,cfl] at h ⊢
 cases h1:(zG a.lo b.lo).b
 ·rw [h1] at h;exact nw h
 cases h2:(z8 a.lo b.lo).b
 ·rw [h1,h2] at h;exact nw h
 cases h3:(zG a.lo b.hi).b
 ·rw [h1,h2,h3] at h;exact nw h
 cases h4:(z8 a.lo b.hi).b
 ·rw [h1,h2,h3,h4] at h;exact nw h
 cases h5:(zG a.hi b.lo).b
 ·rw [h1,h2,h3,h4,h5] at h;exact nw h
 cases h6:(z8 a.hi b.lo).b
 ·rw [h1,h2,h3,h4,h5,h6] at h;exact nw h
 cases h7:(zG a.hi b.hi).b
 ·rw [h1,h2,h3,h4,h5,h6,h7] at h;exact nw h
 cases h8:(z8 a.hi b.hi).b
 ·rw [h1,h2,h3,h4,h5,h6,h7,h8] at h;exact nw h
 simp only [h1,h2,h3,h4,h5,h6,h7,h8,Bool.not_true,cfl] at h ⊢
 refine ⟨trivial,trivial,?_⟩
 have v1:=divdown_neg h0' h1
 have v2:=divup_neg h0' h2
 have v3:=divdown_neg h0 h3
 have v4:=divup_neg h0 h4
 have v5:=divdown_neg h0' h5
 have v6:=divup_neg h0' h6
 have v7:=divdown_neg h0 h7
 have v8:=divup_neg h0 h8
 generalize (zG a.lo b.lo).a=d1 at *
 generalize (zG a.lo b.hi).a=d2 at *
 generalize (zG a.hi b.lo).a=d3 at *
 generalize (zG a.hi b.hi).a=d4 at *
 generalize (z8 a.lo b.lo).a=u1 at *
 generalize (z8 a.lo b.hi).a=u2 at *
 generalize (z8 a.hi b.lo).a=u3 at *
 generalize (z8 a.hi b.hi).a=u4 at *
 have m1:=min_l ⟨1152921504606846976,rfl⟩ d1
 have m2:=min_l (zB ⟨1152921504606846976,rfl⟩ d1) d2
 have m3:=min_l (zB (zB ⟨1152921504606846976,rfl⟩ d1) d2) d3
 have m4:=min_l (zB (zB (zB ⟨1152921504606846976,rfl⟩ d1) d2) d3) d4
 have n1:=max_l ⟨-1152921504606846976,rfl⟩ u1
 have n2:=max_l (zt ⟨-1152921504606846976,rfl⟩ u1) u2
 have n3:=max_l (zt (zt ⟨-1152921504606846976,rfl⟩ u1) u2) u3
 have n4:=max_l (zt (zt (zt ⟨-1152921504606846976,rfl⟩ u1) u2) u3) u4
 generalize zB (zB (zB (zB ⟨1152921504606846976,rfl⟩ d1) d2) d3) d4=lo at *
 generalize zt (zt (zt (zt ⟨-1152921504606846976,rfl⟩ u1) u2) u3) u4=hi at *
 by_cases hm: -1152921504606846976<lo.val/\lo.val<=hi.val/\hi.val<1152921504606846976
 ·rw [zcx hm]
  simp only
  rintro x y (rfl|rfl) (rfl|rfl)
  ·omega
  ·omega
  ·omega
  ·omega
 ·rw [make_no hm] at h;exact nw h
theorem divI_two {a b:Iv} (h:za (zz a b)=true):0<b.lo.val\/b.hi.val<0:=by
 have nw:∀ {P:Prop},za zo=true->P:=fun h=>by rw [zbn] at h;cases h
 simp only [zz,zfM,Tr.get] at h
 cases ha:za a
 ·rw [ha] at h;exact nw h
 cases hb:za b
 ·rw [ha,hb] at h;exact nw h
 have ob:=(zbR _).1 hb
 have hz:zaO b ⟨0,rfl⟩=decide (b.lo.val<=0/\0<=b.hi.val):=by simp only [zaO,zcg,Tr.get,zeF]
 by_cases hd:b.lo.val<=0/\0<=b.hi.val
 ·rw [ha,hb,hz,decide_eq_true hd] at h;exact nw h
 ·omega
theorem In.div {x y:Re} {a b:Iv} (h:In x a) (k:In y b):In (x/y) (zz a b):=fun ok=>by
 rcases divI_two ok with h0|h0
 ·exact h.div_pos k h0 ok
 obtain ⟨o1,o2,hc⟩:=divI_corner_neg h0 ok
 obtain ⟨h1,h2⟩:=h o1
 obtain ⟨k1,k2⟩:=k o2
 have b':=(zbR _).1 o2
 have y0:=lt_of_le_of_lt k2 (fx_neg' h0)
 have n1: -x<=fx (-a.lo.val):=by rw [zfU];generalize fx a.lo.val=u at *;exact zK [x,u] (sn h1)
 have n2:fx (-a.hi.val) <= -x:=by rw [zfU];generalize fx a.hi.val=u at *;exact zK [x,u] (sn h2)
 have m1: -y<=fx (-b.lo.val):=by rw [zfU];generalize fx b.lo.val=u at *;exact zK [y,u] (sn k1)
 have m2:fx (-b.hi.val) <= -y:=by rw [zfU];generalize fx b.hi.val=u at *;exact zK [y,u] (sn k2)
 have i1:=inv_le (neg_ne y0) m1
 have i2:=inv_le (fx_p (show 0 < -b.hi.val by omega)) m2
 have p0:∀v:I64,(v=b.lo\/v=b.hi)->0 < -v.val:=by rintro v (rfl|rfl)<;>omega
 have lo:∀u v:I64,(u=a.lo\/u=a.hi)->(v=b.lo\/v=b.hi)->fx (zz a b).lo.val<=fx (-u.val)*(fx (-v.val))⁻¹:=fun u v hu hv=>le_trans (zft.2 (hc u v hu hv).1) (fx_div_lo (p0 v hv))
 have hi:∀u v:I64,(u=a.lo\/u=a.hi)->(v=b.lo\/v=b.hi)->fx (-u.val)*(fx (-v.val))⁻¹<=fx (zz a b).hi.val:=fun u v hu hv=>by
  have:=fx_div_hi (x:= -u.val) (p0 v hv)
  rw [Int.neg_neg] at this
  exact le_trans this (zft.2 (hc u v hu hv).2)
 rw [<- div_neg x y (ne_of_lt y0)]
 exact ⟨real_lo n2 n1 i1 i2 (lo _ _ (.inr rfl) (.inl rfl)) (lo _ _ (.inr rfl) (.inr rfl)) (lo _ _ (.inl rfl) (.inl rfl)) (lo _ _ (.inl rfl) (.inr rfl)),
  real_hi n2 n1 i1 i2 (hi _ _ (.inr rfl) (.inl rfl)) (hi _ _ (.inr rfl) (.inr rfl)) (hi _ _ (.inl rfl) (.inl rfl)) (hi _ _ (.inl rfl) (.inr rfl))⟩
theorem narrow_b {v:Int} (h:(narrow v).b=true):(narrow v).a.val=v /\ -9223372036854775808<=v/\v<=9223372036854775807:=by
 unfold narrow at h ⊢
 split at h
 ·rename_i hr;rw [if_pos hr];exact ⟨wi hr.1 hr.2,hr⟩
 ·cases h
theorem quo_lo' {a b:Int} (hb:0<b):fx (a*4294967296/b)<=zi a/zi b:=by
 have zb:0<zi b:=by rw [<- zi_0];exact zi_lt.2 hb
 rw [le_div zb]
 have:=fx_floor (p:=a*4294967296) hb
 unfold fx
 rw [zeo a] at this
 generalize zi (a*4294967296/b)=q at *;generalize zi a=u at *;generalize zi b=v at *
 rw [show zi 4294967296=rat 4294967296 from rfl] at this
 exact zK [q,u,v] (kn (1/4294967296) (sn this))
theorem quo_hi' {a b:Int} (hb:0<b):zi a/zi b<=fx (a*4294967296/b+1):=by
 have zb:0<zi b:=by rw [<- zi_0];exact zi_lt.2 hb
 rw [div_le zb]
 have h1:a*4294967296<=(a*4294967296/b+1)*b:=by have:=Int.lt_ediv_add_one_mul_self (a*4294967296) hb;omega
 have:=zi_le.2 h1
 unfold fx
 rw [zeo a,zeo _ b] at this
 generalize zi (a*4294967296/b+1)=q at *;generalize zi a=u at *;generalize zi b=v at *
 rw [show zi 4294967296=rat 4294967296 from rfl] at this
 exact zK [q,u,v] (kn (1/4294967296) (sn this))
theorem quo_eq' {a b:Int} (hb:0<b) (h:a*4294967296%b=0):zi a/zi b<=fx (a*4294967296/b):=by
 have zb:0<zi b:=by rw [<- zi_0];exact zi_lt.2 hb
 rw [div_le zb]
 have h1:a*4294967296<=(a*4294967296/b)*b:=by
  have:=Int.mul_ediv_add_emod (a*4294967296) b
  rw [h,Int.mul_comm] at this;omega
 have:=zi_le.2 h1
 unfold fx
 rw [zeo a,zeo _ b] at this
 generalize zi (a*4294967296/b)=q at *;generalize zi a=u at *;generalize zi b=v at *
 rw [show zi 4294967296=rat 4294967296 from rfl] at this
 exact zK [q,u,v] (kn (1/4294967296) (sn this))
theorem end_b {a:I64} {c:Bool} (h:(zat a c).b=true):c=true/\zat a c=⟨a,true⟩/\zF a=true:=by
 rcases end_cases a c with e|⟨e,k⟩
 ·rw [e] at h;cases h
 ·refine ⟨?_,e,k⟩
  cases c
  ·rw [end_no] at e;cases e
  ·rfl
theorem In.quotient {a b:I64} (hb:0<b.val):In (zi a.val/zi b.val) (zO a b):=by
 rw [q_F_spec]
 have hn:¬b.val<0:=by omega
 unfold QQ
 rw [if_neg hn]
 unfold QU
 cases h1:(FF a b).b
 ·exact In.whole _
 cases h2:(FC a b).b
 ·exact In.whole _
 simp only [cond_true]
 have f1:fx (FF a b).a.val<=zi a.val/zi b.val:=by
  unfold FF at h1 ⊢
  obtain ⟨e1,e2,e3⟩:=end_b h1
  rw [e2]
  simp only [MD,hb,if_true] at e1 ⊢
  have:=narrow_b e1
  rw [this.1]
  exact quo_lo' hb
 have f2:zi a.val/zi b.val<=fx (FC a b).a.val:=by
  unfold FC at h2 ⊢
  simp only [hb,if_true] at h2 ⊢
  cases hq:(narrow (a.val*4294967296/b.val)).b
  ·rw [hq] at h2;simp at h2
  have nb:=narrow_b hq
  simp only [hq,if_true] at h2 ⊢
  by_cases hz:a.val*4294967296%b.val=0
  ·simp only [hz,if_true] at h2 ⊢
   obtain ⟨e1,e2,e3⟩:=end_b h2
   rw [e2,nb.1]
   exact quo_eq' hb hz
  ·simp only [hz,if_false] at h2 ⊢
   obtain ⟨e1,e2,e3⟩:=end_b h2
   rw [e2]
   have ob:=ok_bd e3
   rw [nb.1] at ob ⊢
   by_cases hx:a.val*4294967296/b.val=9223372036854775807
   ·rw [hx] at ob;exact absurd ob (by decide)
   ·rw [wi (by omega) (by omega)]
    exact quo_hi' hb
 intro ok
 by_cases hm: -1152921504606846976<(FF a b).a.val/\(FF a b).a.val<=(FC a b).a.val/\(FC a b).a.val<1152921504606846976
 ·rw [zcx hm];exact ⟨f1,f2⟩
 ·rw [make_no hm,zbn] at ok;cases ok
theorem In.quot {n:I64} (q:Nat) (r:Rat) (hn:n.val=((q+1:Nat):Int):=by kernel_rfl) (hr:1/((q+1:Nat):Rat)=r:=by kernel_rfl):In (rat r) (zO ⟨1,rfl⟩ n):=by
 have:=In.quotient (a:=⟨1,rfl⟩) (b:=n) (by omega)
 rw [hn,zi_nat,show zi ((⟨1,rfl⟩:I64)).val=1 from rfl] at this
 have e:(1:Re)/rat ((q+1:Nat):Rat)=rat r:=by
  rw [<- hr]
  have i:=inv_nat q
  have p:0<rat ((q+1:Nat):Rat):=nat_p (Nat.succ_pos q)
  refine eq_of_mul (ne_of_gt p) ?_
  rw [div_mul (ne_of_gt p),An.mul_comm,i]
 rwa [e] at this
theorem In.halve {x:Re} {a:Iv} (h:In x a):In (x/(1+An.sqrt (1+x*x))) (zcV a):=by
 simp only [zcV,zfE,Tr.get]
 exact h.div (In.add In.one (In.sqrt (In.add In.one h.sqr)))
theorem In.arcS {x:Re} {a:Iv} (h:In x a):In (atan x) (zc9 a):=by
 simp only [zc9,ze4,Tr.get,zcz]
 cases hi:zaZ a ⟨⟨(-1073741824),rfl⟩,⟨1073741824,rfl⟩⟩
 ·exact In.whole _
 simp only [Bool.not_true,cfl]
 have hin:za a=true /\ -1073741824<=a.lo.val/\a.hi.val<=1073741824:=by
  have h2:za ⟨⟨-1073741824,rfl⟩,⟨1073741824,rfl⟩⟩=true:=(zbR _).2 (by decide)
  simp only [zaZ,zd7,Tr.get,h2,Bool.not_true,cfl] at hi
  revert hi
  cases za a<;>by_cases h1: -1073741824<=a.lo.val<;>simp [h1,ctr,cfl]
 obtain ⟨o,k1,k2⟩:=hin
 have hx:An.abs x<=rat (1/4):=by
  obtain ⟨h1,h2⟩:=h o
  have l1:=zft.2 k1
  have l2:=zft.2 k2
  have e:fx 1073741824=rat (1/4):=(show rat ((1073741824:Int):Rat)*rat (1/4294967296)=rat (1/4) from An.ring [])
  rw [zfU,e] at l1
  rw [e] at l2
  exact zfV (le_trans l1 h1) (le_trans h2 l2)
 have e:=atan_horner hx
 have:=(h.mul (In.sub (In.quot (n:=⟨1,rfl⟩) 0 (1/1)) (In.mul h.sqr (In.sub (In.quot (n:=⟨3,rfl⟩) 2 (1/3)) (In.mul h.sqr (In.sub (In.quot (n:=⟨5,rfl⟩) 4 (1/5)) (In.mul h.sqr (In.sub (In.quot (n:=⟨7,rfl⟩) 6 (1/7)) (In.mul h.sqr (In.sub (In.quot (n:=⟨9,rfl⟩) 8 (1/9)) (In.mul h.sqr (In.sub (In.quot (n:=⟨11,rfl⟩) 10 (1/11)) (In.mul h.sqr (In.sub (In.quot (n:=⟨13,rfl⟩) 12 (1/13)) (In.mul h.sqr (In.sub (In.quot (n:=⟨15,rfl⟩) 14 (1/15)) (In.mul h.sqr (In.sub (In.quot (n:=⟨17,rfl⟩) 16 (1/17)) (In.mul h.sqr (In.sub (In.quot (n:=⟨19,rfl⟩) 18 (1/19)) (In.mul h.sqr (In.quot (n:=⟨21,rfl⟩) 20 (1/21))))))))))))))))))))))).add (In.tiny e)
 generalize x*(rat (1/1)-x*x*(rat (1/3)-x*x*(rat (1/5)-x*x*(rat (1/7)-x*x*(rat (1/9)-x*x*(rat (1/11)-x*x*(rat (1/13)-x*x*(rat (1/15)-x*x*(rat (1/17)-x*x*(rat (1/19)-x*x*rat (1/21)))))))))))=u at *;generalize atan x=s at *
 rwa [show u+(s-u)=s from An.ring [u,s]] at this
theorem In.core {x:Re} {a:Iv} (h:In x a):In (atan x) (zbW a):=by
 simp only [zbW,t_spec_l07Core,Tr.get]
 have:=h.halve.halve.arcS.dbl.dbl
 rwa [<- atan_half,<- atan_half] at this
theorem atan_inv {x:Re} (h:0<x):atan x=hp-atan (1/x):=by
 have c:=atan_cos (1/x)
 have hq:0<1/x:=div_p (qp 1) h
 have p0:0<atan (1/x):=by
  have h2:=atan_mono (le_of_lt hq)
  rw [atan_zero] at h2
  rcases le_iff.1 h2 with h3|h3
  ·exact h3
  ·have:=atan_sc (1/x)
   rw [<- h3,sin_zero,cos_zero,An.mul_one] at this
   exact absurd (this▸hq) (lt_irrefl _)
 have p1:=atan_lt (1/x)
 refine (atan_unique ?_ ?_ ?_).symm
 ·generalize atan (1/x)=a at *;exact zdd [a,hp] (ppn (sp p1) (le_of_lt hp_p))
 ·generalize atan (1/x)=a at *;exact zdd [a,hp] p0
 ·rw [sin_hp_sub,cos_hp_sub,atan_sc]
  have e:=div_mul (x:=1) (ne_of_gt h)
  generalize cos (atan (1/x))=d at *;generalize 1/x=q at *
  exact eq_by [x,q,d] (congrArg (fun t=> -(d*t)) e: -(d*(q*x))= -(d*1))
theorem quarter_val1:za9.lo.val= -6746518853/\za9.hi.val=6746518853/\za za9=true:=by
 have e:za9=⟨⟨-6746518853,rfl⟩,⟨6746518853,rfl⟩⟩:=by kernel_rfl
 rw [e];exact ⟨rfl,rfl,(zbR _).2 (by decide)⟩
theorem hp_fx:hp<=fx 6746518853:=by
 have:=(turn_real (k:=1) (by decide) (by decide)).2
 rw [qt_1] at this
 exact this
theorem In.quarter {x:Re} (h1: -hp<=x) (h2:x<=hp):In x za9:=fun _=>by
 rw [quarter_val1.1,quarter_val1.2.1,zfU]
 have:=hp_fx
 generalize fx 6746518853=u at *
 exact ⟨zK [x,u,hp] (pn (sn this) (sn h1)),le_trans h2 this⟩
theorem atan_bd (x:Re): -hp<=atan x/\atan x<=hp:=⟨le_of_lt (atan_gt x),le_of_lt (atan_lt x)⟩
theorem In.atan_pos {n:I64} (h:0<=n.val):In (atan (fx n.val)) (zcp n)/\In (atan (fx n.val)) (zcY n)/\zey n=true:=by
 have hn:decide (n.val<0)=false:=by simp;omega
 have q:=In.quarter (atan_bd (fx n.val)).1 (atan_bd (fx n.val)).2
 simp only [zcp,zeN,zcY,zet,zey,Tr.get,Tr.opt,hn,cfl]
 cases zbj n
 ·exact ⟨q,q,rfl⟩
 simp only [Bool.not_true,cfl]
 by_cases hg:n.val>4294967296
 ·simp only [hg,decide_true,ctr]
  have:In (atan (fx n.val)) (zQ (zV ⟨1,rfl⟩) (zbW (zz (zD ⟨1,rfl⟩) (zq n)))):=by
   rw [atan_inv (fx_p (show 0<n.val by omega))]
   have t:=In.turn' (k:=⟨1,rfl⟩) (by decide) (by decide)
   rw [show ((⟨1,rfl⟩:I64)).val=1 from rfl,qt_1] at t
   exact t.sub (In.one.div In.point).core
  exact ⟨this,this,rfl⟩
 ·simp only [hg,decide_false,cfl]
  exact ⟨In.point.core,In.point.core,rfl⟩
theorem In.atanAt {n:I64}:In (atan (fx n.val)) (zcp n):=by
 by_cases h:0<=n.val
 ·exact (In.atan_pos h).1
 have hn:decide (n.val<0)=true:=by simp;omega
 have q:=In.quarter (atan_bd (fx n.val)).1 (atan_bd (fx n.val)).2
 simp only [zcp,zeN,Tr.get,hn,ctr]
 cases hf:zbj n
 ·exact q
 have hb:=(fix_iff n).1 hf
 have en:(Rng.w .i64 (0-n.val)).val= -n.val:=by rw [wi (by omega) (by omega)];omega
 obtain ⟨_,h2,h3⟩:=In.atan_pos (n:= .w .i64 (0-n.val)) (by rw [en];omega)
 rw [en,zfU,atan_neg] at h2
 simp only [Bool.not_true,cfl,h3,ctr]
 have:=h2.neg
 rwa [show - - atan (fx n.val)=atan (fx n.val) from by generalize atan (fx n.val)=u;exact An.ring [u]] at this
theorem In.atan {x:Re} {a:Iv} (h:In x a):In (An.atan x) (zah a):=by
 rw [atanI_spec,siw_eq]
 cases ha:za a
 ·exact In.quarter (atan_bd x).1 (atan_bd x).2
 simp only [Bool.not_true,cfl]
 obtain ⟨h1,h2⟩:=h ha
 exact In.between (In.atanAt.hull_l) (In.atanAt.hull_r) (atan_mono h1) (atan_mono h2)
theorem In.dirAt {y x:I64}:In (dir (fx y.val) (fx x.val)) (zJ y x):=by
 rw [<- dirAt_eq]
 simp only [zX,zdY,Tr.get,fix_eq,atanI_eq,divI_F,at_eq,Ev.sub_eq,add_eq,turnI_eq,zbt,zcz]
 cases hy:zbj y
 ·exact In.whole _
 cases hx:zbj x
 ·exact In.whole _
 have by':=(fix_iff y).1 hy
 have bx:=(fix_iff x).1 hx
 have ay:=abs_val y (by omega)
 have ax:=abs_val x (by omega)
 have p:∀n:I64,In (fx n.val) (zq n):=fun n=>by simp only [zq,zfG,Tr.get];exact In.point
 have t1:=In.turn' (k:=⟨1,rfl⟩) (by decide) (by decide)
 have tm1:=In.turn' (k:=⟨-1,rfl⟩) (by decide) (by decide)
 have t2:=In.turn' (k:=⟨2,rfl⟩) (by decide) (by decide)
 have tm2:=In.turn' (k:=⟨-2,rfl⟩) (by decide) (by decide)
 rw [show ((⟨1,rfl⟩:I64)).val=1 from rfl,qt_1] at t1
 rw [show ((⟨-1,rfl⟩:I64)).val= -1 from rfl,qt_neg,qt_1] at tm1
 rw [show ((⟨2,rfl⟩:I64)).val=2 from rfl,show qt 2=pi from rfl] at t2
 have q2:qt (-2)= -pi:=qt_neg 2
 rw [show ((⟨-2,rfl⟩:I64)).val= -2 from rfl,q2] at tm2
 have key:¬(y.val=0/\x.val=0)->In (dir (fx y.val) (fx x.val)) (bif decide ((zbs y).val>(zbs x).val) then (bif decide (y.val<0) then zQ (zV ⟨-1,rfl⟩) (zah (zz (zq x) (zq y))) else zQ (zV ⟨1,rfl⟩) (zah (zz (zq x) (zq y))))
   else (bif decide (x.val>0) then zah (zz (zq y) (zq x)) else (bif decide (y.val<0) then zP (zah (zz (zq y) (zq x))) (zV ⟨-2,rfl⟩) else zP (zah (zz (zq y) (zq x))) (zV ⟨2,rfl⟩)))):=fun hz=>by
  by_cases c:(zbs y).val>(zbs x).val
  ·simp only [c,decide_true,ctr]
   rw [ax,ay] at c
   by_cases n:y.val<0
   ·simp only [n,decide_true,ctr]
    rw [dir_down (fx_neg' n)]
    exact tm1.sub ((p x).div (p y)).atan
   ·simp only [n,decide_false,cfl]
    rw [dir_up (fx_p (show 0<y.val by split at c<;>omega))]
    exact t1.sub ((p x).div (p y)).atan
  ·simp only [c,decide_false,cfl]
   rw [ax,ay] at c
   by_cases px:x.val>0
   ·simp only [px,decide_true,ctr]
    rw [dir_right (fx_p px)]
    exact ((p y).div (p x)).atan
   ·simp only [px,decide_false,cfl]
    have nx:x.val<0:=by split at c<;>split at c<;>omega
    by_cases n:y.val<0
    ·simp only [n,decide_true,ctr]
     rw [dir_left' (fx_neg' nx) (fx_neg' n)]
     exact ((p y).div (p x)).atan.add tm2
    ·simp only [n,decide_false,cfl]
     rw [dir_left (fx_neg' nx) (fx_nn (by omega))]
     exact ((p y).div (p x)).atan.add t2
 simp only [Bool.not_true,cfl]
 by_cases y0:y.val=0
 ·have ey:(y.val==0)=true:=by simp [y0]
  by_cases x0:x.val=0
  ·have ex:(x.val==0)=true:=by simp [x0]
   simp only [ey,ex,ctr];exact In.whole _
  ·have ex:(x.val==0)=false:=by simp [x0]
   simp only [ey,ex,ctr,cfl]
   exact key (by omega)
 ·have ey:(y.val==0)=false:=by simp [y0]
  simp only [ey,cfl]
  exact key (by omega)
theorem In.dir {y x:Re} {b a:Iv} (h:In y b) (k:In x a):In (An.dir y x) (zaE b a):=by
 simp only [zaE,zcB,Tr.get,siw_eq,zcz]
 cases hb:za b
 ·exact In.whole _
 cases ha:za a
 ·exact In.whole _
 have ob:=(zbR _).1 hb
 have oa:=(zbR _).1 ha
 obtain ⟨h1,h2⟩:=h hb
 obtain ⟨k1,k2⟩:=k ha
 have hz:∀c:Iv,za c=true->zc8 c ⟨0,rfl⟩=decide (c.lo.val<=0/\0<=c.hi.val):=fun c hc=>by
  simp only [zc8,t_spec_HasI,zaO,zcg,Tr.get,zeF,hc,Bool.not_true,cfl]
 simp only [Bool.not_true,cfl,hz b hb,hz a ha]
 have key:¬(b.lo.val<=0/\0<=b.hi.val/\a.lo.val<=0/\0<=a.hi.val)->¬(a.lo.val<0/\b.lo.val<0/\0<=b.hi.val)->
   In (An.dir y x) (zW (zW (zJ b.lo a.lo) (zJ b.lo a.hi)) (zW (zJ b.hi a.lo) (zJ b.hi a.hi))):=fun c1 c2=>by
  have cz:∀n:Int,(fx n<=0↔n<=0)/\(0<=fx n↔0<=n)/\(fx n<0↔n<0):=fun n=>by
   have e:=fx_0
   refine ⟨?_,?_,?_⟩<;>rw [<- e]
   ·exact zft
   ·exact zft
   ·exact fx_lt
  obtain ⟨_,⟨u,v,hu,hv,e1⟩,⟨u',v',hu',hv',e2⟩⟩:=dir_box k1 k2 h1 h2
   (fun c=>c1 ⟨(cz _).1.1 c.1,(cz _).2.1.1 c.2.1,(cz _).1.1 c.2.2.1,(cz _).2.1.1 c.2.2.2⟩)
   (fun c=>c2 ⟨(cz _).2.2.1 c.1,(cz _).2.2.1 c.2.1,(cz _).2.1.1 c.2.2⟩)
  have mem:∀u v,(u=fx a.lo.val\/u=fx a.hi.val)->(v=fx b.lo.val\/v=fx b.hi.val)->In (An.dir v u) (zW (zW (zJ b.lo a.lo) (zJ b.lo a.hi)) (zW (zJ b.hi a.lo) (zJ b.hi a.hi))):=by
   rintro u v (rfl|rfl) (rfl|rfl)
   ·exact In.dirAt.hull_l.hull_l
   ·exact In.dirAt.hull_l.hull_r
   ·exact In.dirAt.hull_r.hull_l
   ·exact In.dirAt.hull_r.hull_r
  exact In.between (mem u' v' hu' hv') (mem u v hu hv) e2 e1
 by_cases b0:b.lo.val<=0/\0<=b.hi.val
 ·simp only [b0,and_self,decide_true,ctr]
  by_cases a0:a.lo.val<=0/\0<=a.hi.val
  ·simp only [a0,and_self,decide_true,ctr];exact In.whole _
  ·simp only [a0,decide_false,cfl]
   by_cases c1:a.lo.val<0
   ·simp only [c1,decide_true,ctr]
    by_cases c2:b.lo.val<0
    ·have c3:b.hi.val>=0:=b0.2
     simp only [c2,c3,decide_true,ctr];exact In.whole _
    ·simp only [c2,decide_false,cfl];exact key (by omega) (by omega)
   ·simp only [c1,decide_false,cfl];exact key (by omega) (by omega)
 ·simp only [b0,decide_false,cfl]
  by_cases c1:a.lo.val<0
  ·simp only [c1,decide_true,ctr]
   by_cases c2:b.lo.val<0
   ·by_cases c3:b.hi.val>=0
    ·simp only [c2,c3,decide_true,ctr];exact In.whole _
    ·simp only [c2,c3,decide_true,decide_false,ctr,cfl];exact key (by omega) (by omega)
   ·simp only [c2,decide_false,cfl];exact key (by omega) (by omega)
  ·simp only [c1,decide_false,cfl];exact key (by omega) (by omega)
theorem In.norm {x y z:Re} {v:Vec} (hx:In x v.x) (hy:In y v.y) (hz:In z v.z):In (An.sqrt (x*x+y*y+z*z)) (zdr v):=by
 simp only [zdr,t_spec_NormV,Tr.get,siw_eq,zcz,ends_eq]
 cases ox:za v.x
 ·exact In.whole _
 cases oy:za v.y
 ·exact In.whole _
 cases oz:za v.z
 ·exact In.whole _
 simp only [Bool.not_true,cfl,abs_make ox,abs_make oy,abs_make oz]
 have ex:=Nc.ends_val ox
 have ey:=Nc.ends_val oy
 have ez:=Nc.ends_val oz
 have jx:=hx.ends ox
 have jy:=hy.ends oy
 have jz:=hz.ends oz
 generalize (zM v.x).a=x1 at *
 generalize (zM v.x).b=x2 at *
 generalize (zM v.y).a=y1 at *
 generalize (zM v.y).b=y2 at *
 generalize (zM v.z).a=z1 at *
 generalize (zM v.z).b=z2 at *
 obtain ⟨a1,a2,a3,a4⟩:=sum_spec (x:=x1) (y:=y1) (z:=z1) (by omega) (by omega) (by omega)
 obtain ⟨b1,b2,b3,b4⟩:=sum_spec (x:=x2) (y:=y2) (z:=z2) (by omega) (by omega) (by omega)
 obtain ⟨r0,r1,r2⟩:=root_mk a2 (by omega)
 obtain ⟨q0,q1,q2⟩:=root_mk b2 (by omega)
 have hle:sq3 x1 y1 z1<=sq3 x2 y2 z2:=by
  have k1:=sq_mono ex.1 ex.2.2.2.2.2
  have k2:=sq_mono ey.1 ey.2.2.2.2.2
  have k3:=sq_mono ez.1 ez.2.2.2.2.2
  unfold sq3;omega
 have hR:(zy (mkW (sq3 x1 y1 z1))).val<=(zy (mkW (sq3 x2 y2 z2))).val:=by
  by_cases hh:(zy (mkW (sq3 x1 y1 z1))).val<=(zy (mkW (sq3 x2 y2 z2))).val
  ·exact hh
  ·have:=sq_mono (a:=(zy (mkW (sq3 x2 y2 z2))).val+1) (b:=(zy (mkW (sq3 x1 y1 z1))).val) (by omega) (by omega)
   omega
 have hQ:(zy (mkW (sq3 x2 y2 z2))).val<=2305843009213693952:=Ev.sq_lt q0 (by decide) (by omega)
 -- the true length
 have sqe:∀t:Re,t*t=An.abs t*An.abs t:=fun t=>(abs_sq t).symm
 have lo:zi (sq3 x1 y1 z1)*rat (1/18446744073709551616)<=x*x+y*y+z*z:=by
  have e1:=mul_le (fx_nn ex.1) jx.1 (fx_nn ex.1) jx.1
  have e2:=mul_le (fx_nn ey.1) jy.1 (fx_nn ey.1) jy.1
  have e3:=mul_le (fx_nn ez.1) jz.1 (fx_nn ez.1) jz.1
  rw [fx_sq,abs_sq] at e1 e2 e3
  unfold sq3
  rw [zi_add,zi_add]
  generalize zi (x1.val*x1.val)=p at *;generalize zi (y1.val*y1.val)=q at *;generalize zi (z1.val*z1.val)=r at *
  exact zK [x,y,z,p,q,r] (pn (pn (sn e1) (sn e2)) (sn e3))
 have hi:x*x+y*y+z*z<=zi (sq3 x2 y2 z2)*rat (1/18446744073709551616):=by
  have e1:=mul_le (zdl x) jx.2 (zdl x) jx.2
  have e2:=mul_le (zdl y) jy.2 (zdl y) jy.2
  have e3:=mul_le (zdl z) jz.2 (zdl z) jz.2
  rw [fx_sq,abs_sq] at e1 e2 e3
  unfold sq3
  rw [zi_add,zi_add]
  generalize zi (x2.val*x2.val)=p at *;generalize zi (y2.val*y2.val)=q at *;generalize zi (z2.val*z2.val)=r at *
  exact zK [x,y,z,p,q,r] (pn (pn (sn e1) (sn e2)) (sn e3))
 have s0:0<=x*x+y*y+z*z:=pn (pn (sqn x) (sqn y)) (sqn z)
 have down:∀r:Int,0<=r->r*r<=sq3 x1 y1 z1->fx r<=An.sqrt (x*x+y*y+z*z):=fun r h0 hr=>by
  refine sq_le (An.sqrt_nn _) ?_
  rw [An.sqrt_sq s0,fx_sq]
  exact le_trans (zk_le hr) lo
 have up:∀r:Int,0<=r->sq3 x2 y2 z2<=r*r->An.sqrt (x*x+y*y+z*z)<=fx r:=fun r h0 hr=>by
  refine sq_le (fx_nn h0) ?_
  rw [An.sqrt_sq s0,fx_sq]
  exact le_trans hi (zk_le hr)
 simp only [a1,b1,mul_spec]
 generalize hR1:zy (mkW (sq3 x1 y1 z1))=R1 at *
 generalize hR2:zy (mkW (sq3 x2 y2 z2))=R2 at *
 have w1:(Rng.w .i64 R1.val).val=R1.val:=wi (by omega) (by omega)
 have w2:(Rng.w .i64 R2.val).val=R2.val:=wi (by omega) (by omega)
 have w3:(Rng.w .i64 (R2.val+1)).val=R2.val+1:=wi (by omega) (by omega)
 rw [w2]
 have q3:=Int.mul_nonneg q0 q0
 have c2:R2.val*R2.val<=2305843009213693952*2305843009213693952:=Int.mul_le_mul hQ hQ q0 (by decide)
 have wm:=wv_mkW (v:=R2.val*R2.val) (by omega) (by omega)
 have ws:=wv_mkW (v:=sq3 x2 y2 z2) (by omega) (by omega)
 generalize hc:((mkW (R2.val*R2.val)).hi.val==(mkW (sq3 x2 y2 z2)).hi.val&&((mkW (R2.val*R2.val)).lo.val==(mkW (sq3 x2 y2 z2)).lo.val&&true))=c
 cases c
 ·simp only [Bool.not_false,ctr,w3]
  by_cases hm:R2.val+1>=1152921504606846976
  ·simp only [hm,decide_true,ctr];exact In.whole _
  ·simp only [hm,decide_false,cfl]
   intro _
   simp only [w1,w3]
   exact ⟨down _ r0 r1,up _ (by omega) (by omega)⟩
 ·simp only [Bool.not_true,cfl,w2]
  by_cases hm:R2.val>=1152921504606846976
  ·simp only [hm,decide_true,ctr];exact In.whole _
  ·simp only [hm,decide_false,cfl]
   intro _
   simp only [w1,w2]
   refine ⟨down _ r0 r1,up _ q0 ?_⟩
   simp only [Bool.and_true,Bool.and_eq_true,beq_iff_eq] at hc
   have:wv (mkW (R2.val*R2.val))=wv (mkW (sq3 x2 y2 z2)):=by unfold wv;rw [hc.1,hc.2]
   rw [wm,ws] at this
   omega
end Go.Proofs.YtfcjhkkpbnobhaaGreat.Nc
namespace Go.Proofs.YtfcjhkkpbnobhaaGreat.Nc
open Go Go.Proofs.YtfcjhkkpbnobhaaGreat.An
open Go.Proofs.YtfcjhkkpbnobhaaGreat.Ev hiding mn mul_bd neg_eq sq_lt sub_eq
structure Rv where
 x:Re
 y:Re
 z:Re
def Rv.dot (a b:Rv):Re:=a.x*b.x+a.y*b.y+a.z*b.z
def Rv.cross (a b:Rv):Rv:=⟨a.y*b.z-a.z*b.y,a.z*b.x-a.x*b.z,a.x*b.y-a.y*b.x⟩
def Rv.norm (a:Rv):Re:=An.sqrt (a.x*a.x+a.y*a.y+a.z*a.z)
def InV (u:Rv) (v:Vec):Prop:=In u.x v.x/\In u.y v.y/\In u.z v.z
theorem InV.dot {u w:Rv} {a b:Vec} (h:InV u a) (k:InV w b):In (u.dot w) (F_spec_DotV a b):=by
 simp only [F_spec_DotV,t_spec_DotV,Tr.get]
 exact ((h.1.mul k.1).add (h.2.1.mul k.2.1)).add (h.2.2.mul k.2.2)
theorem InV.cross {u w:Rv} {a b:Vec} (h:InV u a) (k:InV w b):InV (u.cross w) (zd3 a b):=by
 simp only [zd3,t_spec_CrossV,Tr.get]
 exact ⟨(h.2.1.mul k.2.2).sub (h.2.2.mul k.2.1),(h.2.2.mul k.1).sub (h.1.mul k.2.2),(h.1.mul k.2.1).sub (h.2.1.mul k.1)⟩
theorem InV.norm {u:Rv} {a:Vec} (h:InV u a):In u.norm (zdr a):=In.norm h.1 h.2.1 h.2.2
def vec (u v w s:Re):Rv:=⟨u*v,u*w,s⟩
def pv (p:zaL):Rv:=vec (An.cos (Nc.rad p.lat.val)) (An.cos (Nc.rad p.lon.val)) (An.sin (Nc.rad p.lon.val)) (An.sin (Nc.rad p.lat.val))
def Cl (p:zaL):Iv:=zbD (zaa p.lat)
def Cn (p:zaL):Iv:=zbD (zaa p.lon)
def Sl (p:zaL):Iv:=zb5 (zaa p.lat)
def Sn (p:zaL):Iv:=zb5 (zaa p.lon)
theorem vectorOf_val {p:zaL} (h:zab p=true):zbv p=⟨zC (Cl p) (Cn p),zC (Cl p) (Sn p),Sl p⟩:=by
 simp only [zbv,t_impl_vectorOf,Tr.get,lat_eq h,lon_eq h,cosI_eq,sinI_eq,mulI_F,Cl,Cn,Sl,Sn]
theorem InV.any {p:zaL} (h:zab p=true) {u v w s:Re} (hu:In u (Cl p)) (hv:In v (Cn p)) (hw:In w (Sn p)) (hs:In s (Sl p)):InV (vec u v w s) (zbv p):=by
 rw [vectorOf_val h]
 exact ⟨hu.mul hv,hu.mul hw,hs⟩
theorem InV.vec {p:zaL} (h:zab p=true):InV (pv p) (zbv p):=InV.any h In.rad.cos In.rad.cos In.rad.sin In.rad.sin
theorem less_1 {a b:Iv} (h:(F_spec_LessI a b).val=1):za a=true/\za b=true/\a.hi.val<b.lo.val:=by
 simp only [F_spec_LessI,t_spec_LessI,Tr.get] at h
 cases ha:za a
 ·rw [ha] at h;cases h
 cases hb:za b
 ·rw [ha,hb] at h;cases h
 rw [ha,hb] at h
 simp only [Bool.not_true,cfl] at h
 by_cases c:a.hi.val<b.lo.val
 ·exact ⟨rfl,rfl,c⟩
 ·by_cases d:a.lo.val>=b.hi.val
  ·simp only [c,d,decide_true,decide_false,ctr,cfl] at h;cases h
  ·simp only [c,d,decide_false,cfl] at h;cases h
theorem not_less {x y:Re} {a b:Iv} (h:In x a) (k:In y b) (l:y<=x):¬(F_spec_LessI a b).val=1:=fun e=>by
 obtain ⟨oa,ob,c⟩:=less_1 e
 have h1:=(h oa).2
 have h2:=(k ob).1
 exact absurd (le_trans h2 (le_trans l h1)) (An.not_le.2 (fx_lt.2 c))
theorem In.has {x:Re} {a:Iv} (h:In x a) {n:I64} (hx:x=fx n.val):zc8 a n=true:=by
 simp only [zc8,t_spec_HasI,Tr.get]
 cases o:za a
 ·rfl
 obtain ⟨h1,h2⟩:=h o
 subst hx
 simp only [Bool.not_true,cfl,zaO,zcg,Tr.get,zeF]
 simpa using ⟨zft.1 h1,zft.1 h2⟩
theorem known_val {x:Iv} (h:(zeV x).b.val=0):za x=true/\(zeV x).a=x:=by
 simp only [zeV,t_impl_knownI,Tr.get,isw_eq] at h ⊢
 cases o:za x
 ·rw [o] at h;cases h
 ·simp only [Bool.not_true,cfl];exact ⟨trivial,trivial⟩
end Go.Proofs.YtfcjhkkpbnobhaaGreat.Nc
namespace Go.Proofs.YtfcjhkkpbnobhaaGreat.Nc
open Go Go.Proofs.YtfcjhkkpbnobhaaGreat.An
open Go.Proofs.YtfcjhkkpbnobhaaGreat.Ev hiding mn mul_bd neg_eq sq_lt sub_eq
def Ag (p q:zaL):Iv:=zaE (zdr (zd3 (zbv p) (zbv q))) (F_spec_DotV (zbv p) (zbv q))
theorem angle_val {p q:zaL} (h1:zab p=true) (h2:zab q=true):zcF p q=zeV (Ag p q):=by
 simp only [zcF,t_impl_AngleBetween,Tr.get,areValid_eq,h1,h2,Bool.and_true,Bool.not_true,cfl,dirI_eq,norm_eq,dot_eq,cross_eq,Ag]
def ang (a b:Rv):Re:=An.dir (a.cross b).norm (a.dot b)
theorem Ag.true (p q:zaL) (h1:zab p=true) (h2:zab q=true):In (ang (pv p) (pv q)) (Ag p q):=((InV.vec h1).cross (InV.vec h2)).norm.dir ((InV.vec h1).dot (InV.vec h2))
theorem lagrange (a b:Rv):(a.cross b).dot (a.cross b)+a.dot b*a.dot b=a.dot a*b.dot b:=by
 obtain ⟨a1,a2,a3⟩:=a;obtain ⟨b1,b2,b3⟩:=b
 simp only [Rv.dot,Rv.cross]
 exact An.ring [a1,a2,a3,b1,b2,b3]
theorem dot_nn (a:Rv):0<=a.dot a:=pn (pn (sqn _) (sqn _)) (sqn _)
theorem norm_sq (a:Rv):a.norm*a.norm=a.dot a:=sqrt_sq (dot_nn a)
theorem norm_nn (a:Rv):0<=a.norm:=An.sqrt_nn _
theorem ang_sc {a b:Rv} (ha:a.dot a=1) (hb:b.dot b=1):a.dot b=An.cos (ang a b)/\(a.cross b).norm=An.sin (ang a b)/\0<=ang a b/\ang a b<=pi:=by
 have l:=lagrange a b
 rw [<- norm_sq,ha,hb,An.mul_one] at l
 have n0:=norm_nn (a.cross b)
 unfold ang
 generalize (a.cross b).norm=y at *;generalize a.dot b=x at *
 have hn:¬(y=0/\x=0):=by
  rintro ⟨rfl,rfl⟩
  have:(0:Re)<1:=qp 1
  rw [<- l] at this
  exact An.lt_irrefl 0 (lt_of_lt_of_le this (le_of_eq (An.ring [])))
 have e:An.sqrt (x*x+y*y)=1:=sqrt_eq (qn 1) (by rw [An.mul_one];exact eq_by [x,y] l.symm)
 obtain ⟨e1,e2⟩:=dir_polar hn
 rw [e,An.one_mul] at e1 e2
 refine ⟨e1,e2,?_,dir_le hn⟩
 rcases lt_or_le (An.dir y x) 0 with k|k
 ·have g:=dir_gt hn
  generalize An.dir y x=t at *
  have:=sin_pos (x:= -t) (zdd [t] (sp k)) (zdd [t,pi] (sp g))
  rw [sin_neg,<- e2] at this
  exact absurd n0 (An.not_le.2 (zdd [y] this))
 ·exact k
theorem cos_inj {x y:Re} (hx:0<=x) (hx':x<=pi) (hy:0<=y) (hy':y<=pi) (h:An.cos x=An.cos y):x=y:=by
 rw [<- sin_hp_sub,<- sin_hp_sub] at h
 have:=sin_inj (x:=hp-x) (y:=hp-y) (by have:=sn hx';unfold pi at this;exact zK [x,hp] this) (zK [x,hp] hx) (by have:=sn hy';unfold pi at this;exact zK [y,hp] this) (zK [y,hp] hy) h
 exact eq_by [x,y,hp] this.symm
theorem cauchy (a b:Rv):a.dot b<=a.norm*b.norm:=by
 refine sq_le (An.mn (norm_nn a) (norm_nn b)) ?_
 have e:a.norm*b.norm*(a.norm*b.norm)=a.norm*a.norm*(b.norm*b.norm):=by
  generalize a.norm=u;generalize b.norm=v;exact An.ring [u,v]
 rw [e,norm_sq,norm_sq,<- lagrange]
 have:=dot_nn (a.cross b)
 generalize (a.cross b).dot (a.cross b)=u at *;generalize a.dot b*a.dot b=v
 exact zK [u,v] this
theorem three (a b c:Rv):a.dot b*c.dot c=a.dot c*c.dot b-(a.cross c).dot (c.cross b):=by
 obtain ⟨a1,a2,a3⟩:=a;obtain ⟨b1,b2,b3⟩:=b;obtain ⟨c1,c2,c3⟩:=c
 simp only [Rv.dot,Rv.cross]
 exact An.ring [a1,a2,a3,b1,b2,b3,c1,c2,c3]
theorem ang_tri {a b c:Rv} (ha:a.dot a=1) (hb:b.dot b=1) (hc:c.dot c=1):ang a b<=ang a c+ang c b:=by
 obtain ⟨e1,_,p1,q1⟩:=ang_sc ha hb
 obtain ⟨f1,f2,p2,q2⟩:=ang_sc ha hc
 obtain ⟨g1,g2,p3,q3⟩:=ang_sc hc hb
 have t:=three a b c
 have k:=cauchy (a.cross c) (c.cross b)
 rw [hc,An.mul_one] at t
 rw [f2,g2] at k
 rw [t,f1,g1] at e1
 generalize ang a b=x at *;generalize ang a c=y at *;generalize ang c b=z at *
 rcases lt_or_le (y+z) x with l|l
 ·exfalso
  have y0:0<=y+z:=pn p2 p3
  have m:=cos_anti y0 (le_of_lt l) q1
  rw [<- e1,cos_add] at m
  have m2:An.cos (y+z)<=An.cos x:=by
   rw [<- e1,cos_add]
   generalize An.cos y*An.cos z=u at *;generalize An.sin y*An.sin z=v at *;generalize (a.cross c).dot (c.cross b)=w at *
   exact zK [u,v,w] (sn k)
  have m3:=cos_anti y0 (le_of_lt l) q1
  have:=cos_inj y0 (le_trans (le_of_lt l) q1) p1 q1 (le_antisymm m2 m3)
  rw [this] at l
  exact An.lt_irrefl _ l
 ·exact l
theorem In.overlap {x:Re} {a b:Iv} (h:In x a) (k:In x b):za7 a b=true:=by
 simp only [za7,zes,zcX,zeG,Tr.get]
 cases ha:za a
 ·cases hb:za b<;>rfl
 cases hb:za b
 ·rfl
 obtain ⟨h1,h2⟩:=h ha
 obtain ⟨k1,k2⟩:=k hb
 have l1:=zft.1 (le_trans h1 k2)
 have l2:=zft.1 (le_trans k1 h2)
 have b1:=(zbR _).1 ha
 have b2:=(zbR _).1 hb
 have m1:=max_l a.lo b.lo
 have m2:=min_l a.hi b.hi
 have n:¬(zt a.lo b.lo).val>(zB a.hi b.hi).val:=by omega
 simp only [Bool.not_true,cfl,n,decide_false]
end Go.Proofs.YtfcjhkkpbnobhaaGreat.Nc
namespace Go.Proofs.YtfcjhkkpbnobhaaGreat.Nc
open Go Go.Proofs.YtfcjhkkpbnobhaaGreat.An
open Go.Proofs.YtfcjhkkpbnobhaaGreat.Ev hiding mn mul_bd neg_eq sq_lt sub_eq
theorem ok_iff {p:zaL}:zab p=true↔(-900000000<=p.lat.val/\p.lat.val<=900000000)/\(-1799999999<=p.lon.val/\p.lon.val<=1800000000):=by
 simp only [zab,t_spec_l11Ok,Tr.get,zeF]
 by_cases h: -900000000<=p.lat.val/\p.lat.val<=900000000
 ·simp [h]
 ·simp only [h,decide_false,cfl,false_and,Bool.false_eq_true]
theorem angle_in {p q:zaL} (h1:zab p=true) (h2:zab q=true) (h:(zcF p q).b.val=0):In (ang (pv p) (pv q)) (zcF p q).a:=by
 rw [angle_val h1 h2] at h ⊢
 rw [(known_val h).2]
 exact Ag.true p q h1 h2
theorem dir_none {b a:Iv} (h:In 0 b) (k:In 0 a):za (zaE b a)=false:=by
 have e1:zc8 b ⟨0,rfl⟩=true:=h.has (show (0:Re)=fx 0 from fx_0.symm)
 have e2:zc8 a ⟨0,rfl⟩=true:=k.has (show (0:Re)=fx 0 from fx_0.symm)
 simp only [zaE,zcB,Tr.get,siw_eq,zcz,e1,e2,ctr]
 cases za b
 ·exact zbn
 cases za a
 ·exact zbn
 exact zbn
end Go.Proofs.YtfcjhkkpbnobhaaGreat.Nc
namespace Go.Proofs.YtfcjhkkpbnobhaaGreat.Nc
open Go Go.Proofs.YtfcjhkkpbnobhaaGreat.An
open Go.Proofs.YtfcjhkkpbnobhaaGreat.Ev hiding mn mul_bd neg_eq sq_lt sub_eq
def ea (e:Ell):Re:=zi e.a.val/zi 1000
def ef (e:Ell):Re:=zi e.num.val/zi e.den.val
def ee (e:Ell):Re:=ef e*(zi 2-ef e)
def ew (e:Ell) (t:Re):Re:=1-ee e*(An.sin t*An.sin t)
def en (e:Ell) (t:Re):Re:=ea e/An.sqrt (ew e t)
def ph (p:Ev.Place):Re:=zi p.h.val/zi 1000
def cr (e:Ell) (p:Ev.Place):Re:=(en e (Nc.rad p.pt.lat.val)+ph p)*An.cos (Nc.rad p.pt.lat.val)
def cz (e:Ell) (p:Ev.Place):Re:=(en e (Nc.rad p.pt.lat.val)*(1-ee e)+ph p)*An.sin (Nc.rad p.pt.lat.val)
def cv (e:Ell) (p:Ev.Place):Rv:=⟨cr e p*An.cos (Nc.rad p.pt.lon.val),cr e p*An.sin (Nc.rad p.pt.lon.val),cz e p⟩
end Go.Proofs.YtfcjhkkpbnobhaaGreat.Nc
namespace Go.Proofs.YtfcjhkkpbnobhaaGreat.Nc
open Go Go.Proofs.YtfcjhkkpbnobhaaGreat.An
open Go.Proofs.YtfcjhkkpbnobhaaGreat.Ev hiding mn mul_bd neg_eq sq_lt sub_eq
theorem rad_q:Nc.rad 900000000=hp:=by
 show rat ((900000000:Int):Rat)*(hp*rat (1/900000000))=hp
 rw [show ((900000000:Int):Rat)=900000000 from rfl];exact An.ring [hp]
theorem rad_up {a b:Int} (h:a<=b):Nc.rad a<=Nc.rad b:=by
 unfold Nc.rad
 have k:=zi_le.2 h
 have p:=hp_p
 generalize zi a=x at *;generalize zi b=y at *
 exact zK [x,y,hp] (An.mn (sn k) (kn (1/900000000) (le_of_lt p)))
theorem lat_b {p:zaL} (h:zab p=true): -hp<=Nc.rad p.lat.val/\Nc.rad p.lat.val<=hp:=by
 obtain ⟨⟨a,b⟩,_⟩:=ok_iff.1 h
 have h1:=rad_up a
 have h2:=rad_up b
 rw [rad_q] at h2
 rw [rad_neg,rad_q] at h1
 exact ⟨h1,h2⟩
theorem fx_one:fx 1=rat (1/4294967296):=one_mul _
theorem In.make {x:Re} {a b:I64} (h:fx a.val<=x/\x<=fx b.val):In x (zai a b):=fun ok=>by
 by_cases k: -1152921504606846976<a.val/\a.val<=b.val/\b.val<1152921504606846976
 ·rw [zcx k];exact h
 ·rw [make_no k] at ok;exact absurd ok (by rw [zbn];decide)
theorem In.ends8 {x:Re} {a b:Iv} (h1:za a=true->za b=true->fx a.lo.val<=x/\x<=fx b.hi.val):In x (zce a b):=by
 rw [<- Ev.ends8]
 cases ha:za a
 ·exact In.whole x
 ·cases hb:za b
  ·exact In.whole x
  ·exact In.make (h1 ha hb)
theorem In.hlf {x:Re} {a:Iv} (h:In x a):In (x*rat (1/2)) (zd2 a):=by
 simp only [zd2,t_spec_HalfI,Tr.get]
 cases ha:za a
 ·exact In.whole _
 ·simp only [Bool.not_true,cfl]
  have b:=(zbR a).1 ha
  obtain ⟨h1,h2⟩:=h ha
  have f1:a.lo.val.fdiv 2=a.lo.val/2:=Int.fdiv_eq_ediv_of_nonneg _ (by decide)
  have e1:(Rng.w .i64 (a.hi.val+1)).val=a.hi.val+1:=wi (by omega) (by omega)
  refine In.make ?_
  rw [e1]
  have f2:(a.hi.val+1).fdiv 2=(a.hi.val+1)/2:=Int.fdiv_eq_ediv_of_nonneg _ (by decide)
  rw [f1,f2,wi (n:=a.lo.val/2) (by omega) (by omega),wi (n:=(a.hi.val+1)/2) (by omega) (by omega)]
  have g1:fx (2*(a.lo.val/2))<=fx a.lo.val:=zft.2 (by omega)
  have g2:fx a.hi.val<=fx (2*((a.hi.val+1)/2)):=zft.2 (by omega)
  rw [show 2*(a.lo.val/2)=a.lo.val/2+a.lo.val/2 by omega,fx_add] at g1
  rw [show 2*((a.hi.val+1)/2)=(a.hi.val+1)/2+(a.hi.val+1)/2 by omega,fx_add] at g2
  generalize fx (a.lo.val/2)=p at *;generalize fx ((a.hi.val+1)/2)=q at *
  have k1:=le_trans g1 h1
  have k2:=le_trans h2 g2
  exact ⟨zK [p,x] (kn (1/2) (sn k1)),zK [q,x] (kn (1/2) (sn k2))⟩
theorem In.widen {x y:Re} {a:Iv} (h:In x a) (k:An.abs (y-x)<=rat (1/4294967296)):In y (zcm a ⟨1,rfl⟩):=by
 simp only [zcm,zfD,Tr.get]
 cases ha:za a
 ·exact In.whole y
 ·simp only [Bool.not_true,cfl]
  obtain ⟨h1,h2⟩:=h ha
  obtain ⟨k1,k2⟩:=zeh k
  have b:=(zbR _).1 ha
  refine In.make ?_
  rw [wi (n:=a.lo.val-1) (by omega) (by omega),wi (n:=a.hi.val+1) (by omega) (by omega),fx_sub,fx_add,fx_one]
  generalize fx a.lo.val=p at *;generalize fx a.hi.val=q at *;generalize rat (1/4294967296)=r at *
  exact ⟨zK [x,y,p,r] (pn (sn h1) (sn k1)),zK [x,y,q,r] (pn (sn h2) (sn k2))⟩
theorem log2_real {k:Int} (h:0<=k):fx (k*1598288580650331957/536870912)<=zi k*log 2/\zi k*log 2<=fx (0-(0-k)*1598288580650331958/536870912):=by
 have a:=fx_floor (p:=k*1598288580650331957) (d:=536870912) (by decide)
 have b:=fx_floor (p:=(0-k)*1598288580650331958) (d:=536870912) (by decide)
 have k0:=zi_nn h
 rw [show (0:Int)-(0-k)*1598288580650331958/536870912= -((0-k)*1598288580650331958/536870912) by omega,zfU]
 unfold fx
 rw [zeo] at a b
 rw [show zi (0-k)= - zi k from by rw [zi_sub,zi_0];exact An.ring [zi k]] at b
 generalize zi (k*1598288580650331957/536870912)=u at *
 generalize zi ((0-k)*1598288580650331958/536870912)=v at *
 generalize zi k=K at *
 have a':u*rat 536870912<=K*rat 1598288580650331957:=a
 have b':v*rat 536870912 <= -K*rat 1598288580650331958:=b
 have l1:=log2_lo
 have l2:=log2_hi
 generalize log 2=L at *
 constructor
 ·exact zK [u,K,L] (pn (kn (1/536870912/4294967296) (sn a')) (mn k0 (sn l1)))
 ·exact zK [v,K,L] (pn (kn (1/536870912/4294967296) (sn b')) (mn k0 (sn l2)))
theorem log2_p {k:I64} (h:0<=k.val) (h':k.val<=64):∃x:Iv,(zb0 k).opt=some x/\In (zi k.val*log 2) x:=by
 have hi:zar k ⟨(-64),rfl⟩ ⟨64,rfl⟩=true:=by rw [zeF];simp;omega
 have hn:decide (k.val<0)=false:=by simp;omega
 obtain ⟨e1,e2,b1,b2,b3⟩:=log_lo h h'
 have v1:(Rng.w .i64 (k.val*1598288580650331957/536870912)).val=k.val*1598288580650331957/536870912:=wi (by omega) (by omega)
 have v2:(Rng.w .i64 ((0-k.val)*1598288580650331958/536870912)).val=(0-k.val)*1598288580650331958/536870912:=wi (by omega) (by omega)
 have v3:(Rng.w .i64 (0-(0-k.val)*1598288580650331958/536870912)).val=0-(0-k.val)*1598288580650331958/536870912:=wi (by omega) (by omega)
 refine ⟨zai (.w .i64 (k.val*1598288580650331957/536870912)) (.w .i64 (0-(Rng.w .i64 ((0-k.val)*1598288580650331958/536870912)).val)),?_,In.make ?_⟩
 ·simp only [zb0,Tr.opt,hi,hn,Bool.not_true,cond_false,e1,e2]
 ·rw [v2,v1,v3];exact log2_real h
theorem In.log2 {k:I64} (h: -64<=k.val) (h':k.val<=64):In (zi k.val*log 2) (zcO k):=by
 have hi:zar k ⟨(-64),rfl⟩ ⟨64,rfl⟩=true:=by rw [zeF];simp;omega
 by_cases hn:k.val<0
 ·have e1:(Rng.w .i64 (0-k.val)).val=0-k.val:=wi (by omega) (by omega)
  obtain ⟨x,h1,h2⟩:=log2_p (k:= .w .i64 (0-k.val)) (by omega) (by omega)
  have g1:zdS (.w .i64 (0-k.val))=true:=by unfold zdS;rw [h1];rfl
  have f1:F_spec_LogTwoI_p (.w .i64 (0-k.val))=x:=Tr.zan h1
  have hd:decide (k.val<0)=true:=by simpa using hn
  have e:zcO k=zaM x:=Tr.zan (by simp only [zcI,Tr.opt,hi,hd,g1,f1,cond_true,cond_false,Bool.not_true])
  rw [e]
  have:=h2.neg
  rw [e1,zi_sub,zi_0] at this
  rw [show zi k.val*log 2= -((0-zi k.val)*log 2) from by generalize zi k.val=a;generalize log 2=b;exact An.ring [a,b]]
  exact this
 ·obtain ⟨x,h1,h2⟩:=log2_p (k:=k) (by omega) (by omega)
  have hd:decide (k.val<0)=false:=by simpa using hn
  have e:zcO k=x:=Tr.zan (by
   simp only [zb0,Tr.opt,hd] at h1
   simp only [zcI,Tr.opt,hd]
   exact h1)
  rw [e];exact h2
theorem In.l08One:In 1 zbi:=by rw [<- one_eq];exact In.one
def logP (q:Iv):Iv:=zP (zO ⟨1,rfl⟩ ⟨1,rfl⟩) (zC q (zP (zO ⟨1,rfl⟩ ⟨3,rfl⟩) (zC q (zP (zO ⟨1,rfl⟩ ⟨5,rfl⟩) (zC q (zP (zO ⟨1,rfl⟩ ⟨7,rfl⟩) (zC q (zP (zO ⟨1,rfl⟩ ⟨9,rfl⟩) (zC q (zO ⟨1,rfl⟩ ⟨11,rfl⟩))))))))))
theorem logTail_val (m:Iv) (e:I64):logTail m e=zP (zcO e) (zcm (zC (zC (zD ⟨2,rfl⟩) (zz (zQ m zbi) (zP m zbi))) (logP (zbe (zz (zQ m zbi) (zP m zbi))))) ⟨1,rfl⟩):=rfl
theorem In.q1:In (rat (1/1)) (zO ⟨1,rfl⟩ ⟨1,rfl⟩):=In.quot 0 (1/1)
theorem In.q3:In (rat (1/3)) (zO ⟨1,rfl⟩ ⟨3,rfl⟩):=In.quot 2 (1/3)
theorem In.q5:In (rat (1/5)) (zO ⟨1,rfl⟩ ⟨5,rfl⟩):=In.quot 4 (1/5)
theorem In.q7:In (rat (1/7)) (zO ⟨1,rfl⟩ ⟨7,rfl⟩):=In.quot 6 (1/7)
theorem In.q9:In (rat (1/9)) (zO ⟨1,rfl⟩ ⟨9,rfl⟩):=In.quot 8 (1/9)
theorem In.q11:In (rat (1/11)) (zO ⟨1,rfl⟩ ⟨11,rfl⟩):=In.quot 10 (1/11)
theorem In.logP {q:Re} {Q:Iv} (hs:In q Q):In (rat (1/1)+q*(rat (1/3)+q*(rat (1/5)+q*(rat (1/7)+q*(rat (1/9)+q*rat (1/11)))))) (logP Q):=
 In.q1.add (hs.mul (In.q3.add (hs.mul (In.q5.add (hs.mul (In.q7.add (hs.mul (In.q9.add (hs.mul In.q11)))))))))
theorem In.logTail {μ:Re} {m:Iv} {E:I64} (hm:In μ m) (h1:rat (3/4)<=μ) (h2:μ<=rat (3/2)) (e1: -64<=E.val) (e2:E.val<=64):In (zi E.val*log 2+log μ) (logTail m E):=by
 have hp:0<μ:=lt_of_lt_of_le (qp (3/4)) h1
 have hq:0<μ+1:=ppn hp (qn 1)
 have ez:(μ-1)/(μ+1)*(μ+1)=μ-1:=div_mul (ne_of_gt hq)
 have zb:An.abs ((μ-1)/(μ+1))<=rat (1/5):=by
  refine An.zfV ?_ ?_
  ·rw [le_div hq];exact zK [μ] (pn (kn (6/5) (sn h1)) (qn (1/10)))
  ·rw [div_le hq];exact zK [μ] (kn (4/5) (sn h2))
 have hz:In ((μ-1)/(μ+1)) (zz (zQ m zbi) (zP m zbi)):=(hm.sub In.l08One).div (hm.add In.l08One)
 have near:=log_near hp ez zb
 rw [logTail_val]
 generalize zz (zQ m zbi) (zP m zbi)=Z at *
 generalize (μ-1)/(μ+1)=z at *
 have hs:=hz.sqr
 generalize zbe Z=Q at *
 have h2:In (2*z) (zC (zD ⟨2,rfl⟩) Z):=(In.int (n:=⟨2,rfl⟩) (by decide)).mul hz
 exact (In.log2 e1 e2).add ((h2.mul (In.logP hs)).widen near)
theorem In.logAt {n:I64} (hn:1<=n.val):In (log (fx n.val)) (zd1 n):=by
 by_cases hn2:n.val<=1152921504606846976
 ·obtain ⟨m,E,⟨k,k1,hk,b1,b2⟩,e⟩:=logAt_val ⟨hn,hn2⟩
  rw [e]
  have hp2:=pow2_p k
  have hpi:(0:Int)<2^k:=Int.pow_pos (by decide)
  have fp:0<fx n.val:=fx_p (by omega)
  have c1:rat (3/4)=fx 3221225472:=by
   show rat (3/4)=rat 3221225472*rat (1/4294967296)
   exact An.ring []
  have c2:rat (3/2)=fx 6442450944:=by
   show rat (3/2)=rat 6442450944*rat (1/4294967296)
   exact An.ring []
  have l2:=log_pow2 k
  rcases hk with ⟨hE,lo,hi⟩|⟨hE,lh,lo⟩
  ·have ed:fx n.val/zi (2^k)*zi (2^k)=fx n.val:=div_mul (ne_of_gt hp2)
   have hmu:0<fx n.val/zi (2^k):=div_p fp hp2
   have f1:=fx_floor (p:=n.val) (d:=2^k) hpi
   have f2:=fx_floor (p:= -n.val) (d:=2^k) hpi
   have g1:fx m.lo.val<=fx n.val/zi (2^k):=by
    rw [lo,le_div hp2];unfold fx
    generalize zi (n.val/2^k)=a at *;generalize zi n.val=b at *;generalize zi (2^k)=c at *
    exact zK [a,b,c] (kn (1/4294967296) (sn f1))
   have g2:fx n.val/zi (2^k)<=fx m.hi.val:=by
    rw [hi,div_le hp2,zfU];unfold fx
    rw [zi_neg] at f2
    generalize zi (-n.val/2^k)=a at *;generalize zi n.val=b at *;generalize zi (2^k)=c at *
    exact zK [a,b,c] (kn (1/4294967296) (sn f2))
   have u:fx n.val/zi (2^k)<=rat (3/2):=by
    have:n.val<6442450944*2^k:=by
     rw [lo] at b2
     exact (Int.ediv_lt_iff_lt_mul hpi).1 b2
    rw [c2,div_le hp2]
    have:=zi_le.2 (Int.le_of_lt this)
    rw [zeo] at this
    unfold fx
    generalize zi n.val=b at *;generalize zi (2^k)=c at *;generalize zi 6442450944=d at *
    exact zK [b,c,d] (kn (1/4294967296) (sn this))
   have key:=In.logTail (μ:=fx n.val/zi (2^k)) (m:=m) (E:=E) (fun _=>⟨g1,g2⟩) (by rw [c1];exact le_trans (zft.2 b1) g1) u (by omega) (by omega)
   rw [log_div fp hp2,l2,hE] at key
   rw [show log (fx n.val)=zi k*log 2+(log (fx n.val)-zi k*log 2) from by generalize log (fx n.val)=a;generalize log 2=b;generalize zi (k:Int)=c;exact An.ring [a,b,c]]
   exact key
  ·have hmu:0<fx n.val*zi (2^k):=mp fp hp2
   have ev:fx m.lo.val=fx n.val*zi (2^k):=by
    rw [lo];unfold fx;rw [zeo]
    generalize zi n.val=b;generalize zi (2^k)=c
    exact An.ring [b,c]
   have key:=In.logTail (μ:=fx n.val*zi (2^k)) (m:=m) (E:=E) (fun _=>by rw [<- lh,ev];exact ⟨le_refl _,le_refl _⟩) (by rw [c1,<- ev];exact zft.2 b1) (by rw [c2,<- ev];exact zft.2 (by omega)) (by omega) (by omega)
   rw [log_mul fp hp2,l2,hE,zi_neg] at key
   rw [show log (fx n.val)= -zi k*log 2+(log (fx n.val)+zi k*log 2) from by generalize log (fx n.val)=a;generalize log 2=b;generalize zi (k:Int)=c;exact An.ring [a,b,c]]
   exact key
 ·rw [logAt_whole (by omega)];exact In.whole _
theorem logAt_ok1 {n:I64} (h:za (zd1 n)=true):1<=n.val:=by
 by_cases k:1<=n.val/\n.val<=1152921504606846976
 ·exact k.1
 ·rw [logAt_whole k,zbn] at h;cases h
theorem In.log {x:Re} {a:Iv} (h:In x a):In (An.log x) (zeU a):=by
 simp only [zeU,t_spec_LogI,Tr.get]
 cases ha:za a
 ·exact In.whole _
 ·simp only [Bool.not_true,cfl]
  obtain ⟨h1,h2⟩:=h ha
  refine In.ends8 fun o1 o2=>?_
  have n1:=logAt_ok1 o1
  have p1:0<fx a.lo.val:=fx_p (by omega)
  have b:=(zbR a).1 ha
  exact ⟨le_trans (In.logAt n1 o1).1 (log_mono p1 h1),le_trans (log_mono (lt_of_lt_of_le p1 h1) h2) (In.logAt (by omega) o2).2⟩
theorem atanh1_val {n:I64} (h0:0<=n.val) (h:n.val<4294967296):zbw n=zd2 (zeU (zz ⟨.w .i64 (4294967296+n.val),.w .i64 (4294967296+n.val)⟩ ⟨.w .i64 (4294967296-n.val),.w .i64 (4294967296-n.val)⟩)):=by
 have hU:¬n.val>=4294967296:=by omega
 simp only [zbw,zdD,Tr.get,halfI_eq,logI_eq,divI_F,zbt,hU,decide_false,cfl,at_eq,zq,zfG]
theorem In.atanh1 {n:I64} (h0:0<=n.val):In (ath (fx n.val)) (zbw n):=by
 by_cases h:n.val<4294967296
 ·rw [atanh1_val h0 h]
  have e1:(Rng.w .i64 (4294967296+n.val)).val=4294967296+n.val:=wi (by omega) (by omega)
  have e2:(Rng.w .i64 (4294967296-n.val)).val=4294967296-n.val:=wi (by omega) (by omega)
  have i1:=In.point (n:= .w .i64 (4294967296+n.val))
  have i2:=In.point (n:= .w .i64 (4294967296-n.val))
  have key:=(i1.div i2).log.hlf
  rw [e1,e2] at key
  have p1:0<fx (4294967296+n.val):=fx_p (by omega)
  have p2:0<fx (4294967296-n.val):=fx_p (by omega)
  rw [log_div p1 p2,fx_add,fx_sub,fx_1] at key
  exact key
 ·have hU:n.val>=4294967296:=by omega
  simp only [zbw,zdD,Tr.get,hU,decide_true,ctr,zbt]
  exact In.whole _
theorem atanh1_lt {n:I64} (h:za (zbw n)=true):n.val<4294967296:=by
 by_cases hU:n.val>=4294967296
 ·simp only [zbw,zdD,Tr.get,hU,decide_true,ctr,zbt,zbn] at h
  cases h
 ·omega
theorem In.atanhN {n:I64} (hb: -1152921504606846976<n.val):In (ath (fx n.val)) (zaG n ⟨⟩)/\(za (zaG n ⟨⟩)=true-> -4294967296<n.val/\n.val<4294967296):=by
 by_cases hn:n.val<0
 ·have hd:decide (n.val<0)=true:=by simpa using hn
  have e1:(Rng.w .i64 (0-n.val)).val=0-n.val:=wi (by omega) (by omega)
  simp only [zaG,zb4,Tr.get,hd,ctr,Ev.neg_eq]
  have k:=(In.atanh1 (n:= .w .i64 (0-n.val)) (by omega)).neg
  rw [e1,fx_sub,fx_0,show (0:Re)-fx n.val= - fx n.val from by generalize fx n.val=a;exact An.ring [a],ath_neg] at k
  refine ⟨?_,fun ok=>?_⟩
  ·rw [show ath (fx n.val)= - -ath (fx n.val) from by generalize ath (fx n.val)=a;exact An.ring [a]];exact k
  ·have:=atanh1_lt (negI_val ok).1
   omega
 ·have hd:decide (n.val<0)=false:=by simpa using hn
  simp only [zaG,zb4,Tr.get,hd,cfl]
  exact ⟨In.atanh1 (by omega),fun ok=>by have:=atanh1_lt ok;omega⟩
theorem atanhI_val (x:Iv):zdj x=bif !za x then zo else zce (zaG x.lo ⟨⟩) (zaG x.hi ⟨⟩):=by
 refine Tr.zan ?_
 simp only [t_spec_AtanhI,Tr.opt]
 cases h:za x
 ·rfl
 have hb:=(zbR x).1 h
 have a1:=atanh_n x.lo (by omega)
 have a2:=atanh_n x.hi (by omega)
 have g1:zbG x.lo=true:=by unfold zbG;rw [a1];rfl
 have g2:zbG x.hi=true:=by unfold zbG;rw [a2];rfl
 have f1:zdF x.lo=_:=Tr.zan a1
 have f2:zdF x.hi=_:=Tr.zan a2
 simp only [Bool.not_true,cond_false,cond_true,g1,g2,f1,f2]
theorem In.atanh {x:Re} {a:Iv} (h:In x a):In (ath x) (zdj a):=by
 rw [atanhI_val]
 cases ha:za a
 ·exact In.whole _
 ·obtain ⟨h1,h2⟩:=h ha
  have b:=(zbR a).1 ha
  obtain ⟨i1,j1⟩:=In.atanhN (n:=a.lo) (by omega)
  obtain ⟨i2,j2⟩:=In.atanhN (n:=a.hi) (by omega)
  refine In.ends8 fun o1 o2=>?_
  have c1:=(j1 o1).1
  have c2:=(j2 o2).2
  have m1: -1<fx a.lo.val:=by rw [<- fx_m1];exact fx_lt.2 c1
  have m2:fx a.hi.val<1:=by rw [<- fx_1];exact fx_lt.2 c2
  exact ⟨le_trans (i1 o1).1 (ath_mono m1 h1 (lt_of_le_of_lt h2 m2)),le_trans (ath_mono (lt_of_lt_of_le m1 h1) h2 m2) (i2 o2).2⟩
end Go.Proofs.YtfcjhkkpbnobhaaGreat.Nc
namespace Go.Proofs.YtfcjhkkpbnobhaaGreat.Nc
open Go Go.Proofs.YtfcjhkkpbnobhaaGreat.An
open Go.Proofs.YtfcjhkkpbnobhaaGreat.Ev hiding mn mul_bd neg_eq sq_lt sub_eq
def sv (t l:Re):Rv:=⟨An.cos t*An.cos l,An.cos t*An.sin l,An.sin t⟩
theorem sv_dot (t u l m:Re):(sv t l).dot (sv u m)=An.cos t*An.cos u*An.cos (m-l)+An.sin t*An.sin u:=by
 rw [cos_sub]
 show An.cos t*An.cos l*(An.cos u*An.cos m)+An.cos t*An.sin l*(An.cos u*An.sin m)+An.sin t*An.sin u=_
 generalize An.cos t=a;generalize An.cos u=b;generalize An.cos l=c;generalize An.cos m=d;generalize An.sin l=e;generalize An.sin m=f;generalize An.sin t=g;generalize An.sin u=h
 exact An.ring [a,b,c,d,e,f,g,h]
theorem sv_unit (t l:Re):(sv t l).dot (sv t l)=1:=by
 rw [sv_dot,show l-l=0 from An.ring [l],cos_zero]
 have:=sc_sq t
 generalize An.cos t=a at *;generalize An.sin t=b at *
 exact eq_by [a,b] this
theorem ang_chord {a b:Rv} (ha:a.dot a=1) (hb:b.dot b=1) {c:Re} (hc:0<=c) (h:2-2*a.dot b<=c*c):ang a b<=c+2*(c*c):=by
 obtain ⟨e1,_,n1,n2⟩:=ang_sc ha hb
 rw [e1] at h
 generalize ang a b=θ at *
 obtain ⟨t,rfl⟩:∃t,θ=t+t:=⟨θ*rat (1/2),An.ring [θ]⟩
 have t0:0<=t:=zK [t] (kn (1/2) n1)
 have n2':t+t<=2*hp:=n2
 have t1:t<=hp:=zK [t,hp] (kn (1/2) (sn n2'))
 have t2:t<=2:=le_trans t1 hp_2
 have s0:=sin_nn t0 (le_trans t1 (zK [hp] (le_of_lt hp_p):hp<=2*hp))
 have g:=sin_ge t0
 have q:=sc_sq t
 rw [cos_add] at h
 generalize An.sin t=s at *;generalize An.cos t=k at *
 have hs:2*s<=c:=sq_le hc (by
  refine le_trans (le_of_eq ?_) h
  rw [show 2-2*(k*k-s*s)=2-2*((s*s+k*k)-2*(s*s)) from An.ring [k,s],q];exact An.ring [s])
 have g1:t*rat (1/3)<=s:=zK [t,s] (pn (sn g) (kn (1/6) (mn t0 (pn (mn (sn t2) t0) (kn 2 (sn t2))))))
 have g2:t<=c*rat (3/2):=zK [t,s,c] (pn (kn 3 (sn g1)) (kn (3/2) (sn hs)))
 have g3:=An.mul_le t0 g2 t0 g2
 have g4:=mn (mn t0 t0) (sn t2)
 exact zK [t,s,c] (pn (pn (pn (kn 2 (sn g)) (sn hs)) (pn (kn (1/3) g4) (kn (2/3) (sn g3)))) (kn (1/2) (mn hc hc)))
theorem ang_self {u:Rv} (hu:u.dot u=1):ang u u=0:=by
 obtain ⟨e1,_,n1,n2⟩:=ang_sc hu hu
 refine cos_inj n1 n2 (le_refl 0) (by unfold pi;exact le_of_lt (An.mp (qp 2) hp_p)) ?_
 rw [<- e1,hu,cos_zero]
theorem ang_comm {a b:Rv} (ha:a.dot a=1) (hb:b.dot b=1):ang a b=ang b a:=by
 obtain ⟨e1,_,n1,n2⟩:=ang_sc ha hb
 obtain ⟨e2,_,m1,m2⟩:=ang_sc hb ha
 refine cos_inj n1 n2 m1 m2 ?_
 rw [<- e1,<- e2]
 obtain ⟨a1,a2,a3⟩:=a;obtain ⟨b1,b2,b3⟩:=b
 show a1*b1+a2*b2+a3*b3=b1*a1+b2*a2+b3*a3
 exact An.ring [a1,a2,a3,b1,b2,b3]
theorem path_le {c:Re->Rv} (hu:∀t,(c t).dot (c t)=1) {a b K:Re} (hab:a<=b) (hK:0<=K) (h:∀x y,a<=x->x<=y->y<=b->2-2*(c x).dot (c y)<=K*(y-x)*(K*(y-x))):ang (c a) (c b)<=K*(b-a):=by
 have m:K*a-ang (c a) (c a)<=K*b-ang (c a) (c b):=mono2 (f:=fun t=>K*t-ang (c a) (c t)) (K:=2*(K*K)) hab (fun x y h1 h2 h3=>by
  show K*x-ang (c a) (c x)-(K*y-ang (c a) (c y))<=2*(K*K)*((y-x)*(y-x))
  have t:=ang_tri (hu a) (hu y) (hu x)
  have s:=ang_chord (hu x) (hu y) (An.mn hK (sn h2)) (h x y h1 h2 h3)
  generalize ang (c a) (c x)=p at *;generalize ang (c a) (c y)=q at *;generalize ang (c x) (c y)=r at *
  exact zK [K,x,y,p,q,r] (pn (sn t) (sn s)))
 rw [ang_self (hu a)] at m
 generalize ang (c a) (c b)=r at *
 exact zK [K,a,b,r] (sn m)
def psi (t:Re):Re:=ath (An.sin t)
theorem sin_in1 {t:Re} (h1: -hp<t) (h2:t<hp): -1<An.sin t/\An.sin t<1:=by
 have c:=cos_pos h1 h2
 have q:=sc_sq t
 have a:=sin_gem1 t
 have b:=sin_le1 t
 generalize An.sin t=s at *;generalize An.cos t=k at *
 constructor
 ·rcases le_iff.1 a with h|h
  ·exact h
  ·subst h
   exact absurd (zK [k] (eq_nn (show 0-k*k-0=1-(-1 * -1+k*k) from An.ring [k]) (by rw [q];exact zK [] (le_refl 0))):k*k<=0) (An.not_le.2 (An.mp c c))
 ·rcases le_iff.1 b with h|h
  ·exact h
  ·subst h
   exact absurd (zK [k] (eq_nn (show 0-k*k-0=1-(1*1+k*k) from An.ring [k]) (by rw [q];exact zK [] (le_refl 0))):k*k<=0) (An.not_le.2 (An.mp c c))
theorem psi_mono {x y:Re} (h1: -hp<x) (h:x<=y) (h2:y<hp):psi x<=psi y:=
 ath_mono (sin_in1 h1 (lt_of_le_of_lt h h2)).1 (sin_mono (le_of_lt h1) h (le_of_lt h2)) (sin_in1 (lt_of_lt_of_le h1 h) h2).2
theorem psi_e {t:Re} (h1: -hp<t) (h2:t<hp):exp (psi t)*An.cos t=1+An.sin t/\exp (-psi t)*An.cos t=1-An.sin t:=by
 obtain ⟨s1,s2⟩:=sin_in1 h1 h2
 have c:=cos_pos h1 h2
 have q:=sc_sq t
 have e2:=exp_inv (psi t)
 have ep:=exp_pos (psi t)
 have p1:0<1+An.sin t:=zdd [An.sin t] (sp s1)
 have p2:0<1-An.sin t:=sp s2
 have e1:exp (psi t)*exp (psi t)*(1-An.sin t)=1+An.sin t:=by
  rw [<- exp_add]
  have:psi t+psi t=log (1+An.sin t)-log (1-An.sin t):=by
   unfold psi ath;generalize log (1+An.sin t)=u;generalize log (1-An.sin t)=v;exact An.ring [u,v]
  rw [this]
  have k:exp (log (1+An.sin t)-log (1-An.sin t))*exp (log (1-An.sin t))=exp (log (1+An.sin t)):=by
   rw [<- exp_add,show log (1+An.sin t)-log (1-An.sin t)+log (1-An.sin t)=log (1+An.sin t) from by generalize log (1+An.sin t)=u;generalize log (1-An.sin t)=v;exact An.ring [u,v]]
  rw [exp_log p1,exp_log p2] at k
  exact k
 generalize exp (psi t)=E at *;generalize exp (-psi t)=F at *
 generalize An.sin t=s at *;generalize An.cos t=k at *
 have k2:k*k=(1-s)*(1+s):=eq_by [k,s] q
 have r1:E*k=1+s:=sq_eq (An.mn (le_of_lt ep) (le_of_lt c)) (le_of_lt p1) (by
  rw [show E*k*(E*k)=E*E*(k*k) from An.ring [E,k],k2,show E*E*((1-s)*(1+s))=E*E*(1-s)*(1+s) from An.ring [E,s],e1])
 refine ⟨r1,eq_of_mul (ne_of_gt p1) ?_⟩
 rw [<- k2,<- r1,show F*k*(E*k)=E*F*(k*k) from An.ring [E,F,k],e2,An.one_mul]
theorem exp_sq0 {w:Re} (h:0<=w):2*w<=exp w-exp (-w):=by
 have d1:Der 0 w (fun x=>exp (-x)) (fun x=> -exp (-x)):=Der.flip (a:=0) (b:=w) (exp_d (-w) (-0))
 have d2:=(exp_d 0 w).add d1.neg
 have k:=Der.le ((Der.id 0 w).smul 2) d2 h (fun z _ _=>by
  show 2*1<=exp z + - -exp (-z)
  have a:=exp_ge' z
  have b:=exp_ge' (-z)
  generalize exp z=p at *;generalize exp (-z)=q at *
  exact zK [p,q,z] (pn (sn a) (sn b)))
 have k':2*w-2*0<=exp w + -exp (-w)-(exp 0 + -exp (-0)):=k
 rw [show (-0:Re)=0 from An.ring [],exp_zero] at k'
 generalize exp w=p at *;generalize exp (-w)=q at *
 exact zK [p,q,w] (sn k')
theorem exp_sq1 {d:Re} (h:0<=d):d*d<=exp d+exp (-d)-2:=by
 obtain ⟨w,rfl⟩:∃w,d=w+w:=⟨d*rat (1/2),An.ring [d]⟩
 have w0:0<=w:=zK [w] (kn (1/2) h)
 have k:=exp_sq0 w0
 have e:=exp_inv w
 rw [show -(w+w)= -w + -w from An.ring [w],exp_add,exp_add]
 generalize exp w=p at *;generalize exp (-w)=q at *
 have m:=An.mul_le (kn 2 w0) k (kn 2 w0) k
 refine le_trans (le_trans (zK [w] (le_refl 0)) m) (le_of_eq ?_)
 rw [show (p-q)*(p-q)=p*p+q*q-2*(p*q) from An.ring [p,q],e];exact An.ring [p,q]
theorem exp_sq (d:Re):d*d<=exp d+exp (-d)-2:=by
 rcases le_total 0 d with h|h
 ·exact exp_sq1 h
 ·have:=exp_sq1 (neg_nn h)
  rw [show - -d=d from An.ring [d]] at this
  generalize exp d=p at *;generalize exp (-d)=q at *
  exact zK [d,p,q] (sn this)
theorem psi_chord {x y:Re} (x1: -hp<x) (x2:x<hp) (y1: -hp<y) (y2:y<hp):An.cos x*An.cos y*((psi y-psi x)*(psi y-psi x))<=2-2*An.cos (y-x):=by
 obtain ⟨a1,a2⟩:=psi_e x1 x2
 obtain ⟨b1,b2⟩:=psi_e y1 y2
 have cx:=cos_pos x1 x2
 have cy:=cos_pos y1 y2
 have k:=exp_sq (psi y-psi x)
 rw [show psi y-psi x=psi y + -psi x from rfl,show -(psi y + -psi x)= -psi y+psi x from by generalize psi y=u;generalize psi x=v;exact An.ring [u,v],exp_add,exp_add] at k
 rw [cos_sub]
 rw [show psi y-psi x=psi y + -psi x from rfl]
 generalize psi y + -psi x=d at *
 generalize exp (psi x)=E at *;generalize exp (-psi x)=F at *;generalize exp (psi y)=G at *;generalize exp (-psi y)=H at *
 generalize An.cos x=p at *;generalize An.cos y=q at *;generalize An.sin x=s at *;generalize An.sin y=t at *
 have m:=An.mn (le_of_lt (An.mp cx cy)) (sn k)
 refine zK [p,q,d,s,t] (eq_nn (show 2-2*(q*p+t*s)-p*q*(d*d)=p*q*(G*F+H*E-2-d*d) from ?_) m)
 rw [show p*q*(G*F+H*E-2-d*d)=(G*q)*(F*p)+(H*q)*(E*p)-2*(p*q)-p*q*(d*d) from An.ring [p,q,d,E,F,G,H],a1,a2,b1,b2]
 exact An.ring [p,q,d,s,t]
theorem cos_ge2 (x:Re):1-x*x*rat (1/2)<=An.cos x:=by
 rcases le_total 0 x with h|h
 ·exact cos_ge h
 ·have:=cos_ge (neg_nn h)
  rw [cos_neg] at this
  generalize An.cos x=c at *
  exact zK [x,c] (sn this)
theorem rhumb_way {a b k l:Re} (a1: -hp<a) (ab:a<=b) (b2:b<hp):ang (sv a l) (sv b (l+k*(psi b-psi a)))<=An.sqrt (1+k*k)*(b-a):=by
 have K2:=sqrt_sq (x:=1+k*k) (An.pn (qn 1) (sqn k))
 have m:=path_le (c:=fun t=>sv t (l+k*(psi t-psi a))) (fun t=>sv_unit _ _) ab (An.sqrt_nn (1+k*k)) (fun x y h1 h2 h3=>by
  show 2-2*(sv x (l+k*(psi x-psi a))).dot (sv y (l+k*(psi y-psi a)))<=_
  rw [sv_dot]
  have x1:=lt_of_lt_of_le a1 h1
  have y2:=lt_of_le_of_lt h3 b2
  have x2:=lt_of_le_of_lt h2 y2
  have y1:=lt_of_lt_of_le x1 h2
  have ch:=psi_chord x1 x2 y1 y2
  have cx:=cos_pos x1 x2
  have cy:=cos_pos y1 y2
  have e:l+k*(psi y-psi a)-(l+k*(psi x-psi a))=k*(psi y-psi x):=by generalize psi y=u;generalize psi x=v;generalize psi a=w;exact An.ring [k,l,u,v,w]
  rw [e]
  have g1:=cos_ge2 (k*(psi y-psi x))
  have g2:=cos_ge2 (y-x)
  have cs:=cos_sub y x
  generalize An.cos (k*(psi y-psi x))=M at *
  generalize psi y-psi x=d at *
  rw [show An.sqrt (1+k*k)*(y-x)*(An.sqrt (1+k*k)*(y-x))=An.sqrt (1+k*k)*An.sqrt (1+k*k)*((y-x)*(y-x)) from by generalize An.sqrt (1+k*k)=r;exact An.ring [r,x,y],K2]
  have kk:=sqn k
  have f1:=An.mn (le_of_lt (An.mp cx cy)) (sn g1)
  have f2:=An.mn kk (sn ch)
  have f3:=An.mn (An.pn (qn 1:0<=rat 1) kk) (sn g2)
  generalize An.cos (y-x)=N at *
  generalize An.cos x=p at *;generalize An.cos y=q at *;generalize An.sin x=s at *;generalize An.sin y=t at *
  refine zK [p,q,d,s,t,k,x,y,M] (eq_nn (show (1+k*k)*((y-x)*(y-x))-(2-2*(p*q*M+s*t))=2*(p*q*(M-(1-k*d*(k*d)*rat (1/2))))+k*k*(2-2*N-p*q*(d*d))+2*((rat 1+k*k)*(N-(1-(y-x)*(y-x)*rat (1/2)))) from ?_) (pn (pn (kn 2 f1) f2) (kn 2 f3)))
  rw [cs]
  exact An.ring [p,q,d,s,t,k,x,y,M])
 have e:l+k*(psi a-psi a)=l:=by generalize psi a=w;exact An.ring [k,l,w]
 have m':ang (sv a (l+k*(psi a-psi a))) (sv b (l+k*(psi b-psi a)))<=An.sqrt (1+k*k)*(b-a):=m
 rw [e] at m'
 exact m'
theorem parallel_way {t:Re} (t1: -hp<=t) (t2:t<=hp) (l:Re) {d:Re} (s:Re) (hs:s*s=1) (hd:0<=d):ang (sv t l) (sv t (l+s*d))<=d*An.cos t:=by
 have c0:=cos_nn t1 t2
 have m:=path_le (c:=fun x=>sv t (l+s*x)) (fun _=>sv_unit _ _) (a:=0) (b:=d) hd c0 (fun x y h1 h2 h3=>by
  show 2-2*(sv t (l+s*x)).dot (sv t (l+s*y))<=_
  rw [sv_dot,show l+s*y-(l+s*x)=s*(y-x) from An.ring [l,s,x,y]]
  have g:=cos_ge2 (s*(y-x))
  have q:=sc_sq t
  have e:s*(y-x)*(s*(y-x))=(y-x)*(y-x):=by
   rw [show s*(y-x)*(s*(y-x))=s*s*((y-x)*(y-x)) from An.ring [s,x,y],hs,An.one_mul]
  rw [e] at g
  generalize An.cos (s*(y-x))=M at *
  generalize An.cos t=p at *;generalize An.sin t=r at *
  refine zK [p,r,M,x,y] (eq_nn (show p*(y-x)*(p*(y-x))-(2-2*(p*p*M+r*r))=2*(p*p*(M-(1-(y-x)*(y-x)*rat (1/2))))+2*((r*r+p*p)-1) from An.ring [p,r,M,x,y]) (pn (kn 2 (An.mn (sqn p) (sn g))) (kn 2 (eq_nn (show r*r+p*p-1=0 by rw [q];exact An.ring []) (le_refl 0)))))
 )
 have m':ang (sv t (l+s*0)) (sv t (l+s*d))<=An.cos t*(d-0):=m
 rw [show l+s*0=l from An.ring [l,s],show d-0=d from An.ring [d]] at m'
 rwa [An.mul_comm d]
end Go.Proofs.YtfcjhkkpbnobhaaGreat.Nc
namespace Go.Proofs.YtfcjhkkpbnobhaaGreat.Nc
open Go Go.Proofs.YtfcjhkkpbnobhaaGreat.An
open Go.Proofs.YtfcjhkkpbnobhaaGreat.Ev hiding mn mul_bd neg_eq sq_lt sub_eq
theorem wrap_all {n:I64} (h1: -3600000000<n.val) (h2:n.val<3600000000):∃j:Int,n.val=(zcN n).val+3600000000*j:=by
 have ht:Int.tmod n.val 3600000000=n.val:=by
  rcases Int.le_total 0 n.val with h|h
  ·rw [Int.tmod_eq_emod_of_nonneg h];omega
  ·rw [<- Int.neg_neg n.val,Int.neg_tmod,Int.tmod_eq_emod_of_nonneg (by omega)];omega
 simp only [zcN,t_spec_l11Wrap,Tr.get,ht]
 have e1:(Rng.w .i64 n.val).val=n.val:=wi (by omega) (by omega)
 simp only [e1]
 by_cases c:n.val>1800000000
 ·have e2:(Rng.w .i64 (n.val-3600000000)).val=n.val-3600000000:=wi (by omega) (by omega)
  have d:¬n.val-3600000000 <= -1800000000:=by omega
  simp only [e2,c,d,decide_true,decide_false,ctr,cfl]
  exact ⟨1,by omega⟩
 ·by_cases d:n.val <= -1800000000
  ·have e2:(Rng.w .i64 (n.val+3600000000)).val=n.val+3600000000:=wi (by omega) (by omega)
   simp only [c,d,decide_true,decide_false,ctr,cfl,e2]
   exact ⟨-1,by omega⟩
  ·simp only [c,d,decide_false,cfl,e1]
   exact ⟨0,by omega⟩
theorem rad_turn (j:Int):Nc.rad (3600000000*j)=qt (4*j):=by
 unfold Nc.rad qt
 rw [zeo,zeo,show zi 3600000000=rat 3600000000 from rfl,show zi 4=rat 4 from rfl]
 generalize zi j=a
 exact An.ring [a,hp]
def lonD (p q:zaL):I64:=zcN (.w .i64 (q.lon.val-p.lon.val))
theorem lon_sv {p q:zaL} (h1:zab p=true) (h2:zab q=true) (t:Re):sv t (Nc.rad p.lon.val+Nc.rad (lonD p q).val)=sv t (Nc.rad q.lon.val):=by
 obtain ⟨_,a1,a2⟩:=ok_iff.1 h1
 obtain ⟨_,b1,b2⟩:=ok_iff.1 h2
 have e:(Rng.w .i64 (q.lon.val-p.lon.val)).val=q.lon.val-p.lon.val:=wi (by omega) (by omega)
 obtain ⟨j,hj⟩:=wrap_all (n:= .w .i64 (q.lon.val-p.lon.val)) (by omega) (by omega)
 rw [e] at hj
 have k:Nc.rad q.lon.val=Nc.rad p.lon.val+Nc.rad (lonD p q).val+qt (0+4*j):=by
  rw [show (0:Int)+4*j=4*j by omega,<- rad_turn,<- rad_add,<- rad_add]
  congr 1
  unfold lonD
  omega
 have s:=sin_4z (Nc.rad p.lon.val+Nc.rad (lonD p q).val) 0 j
 rw [qt_0,An.add_zero] at s
 rw [k]
 unfold sv
 rw [s.1,s.2]
theorem pv_sv (p:zaL):pv p=sv (Nc.rad p.lat.val) (Nc.rad p.lon.val):=rfl
theorem dirI_ok {b a:Iv} (h:za (zaE b a)=true):za b=true/\za a=true:=by
 simp only [zaE,zcB,Tr.get,siw_eq,zcz] at h
 cases hb:za b
 ·rw [hb] at h;simp only [Bool.not_false,ctr] at h;rw [zbn] at h;cases h
 cases ha:za a
 ·rw [hb,ha] at h;simp only [Bool.not_false,Bool.not_true,ctr,cfl] at h;rw [zbn] at h;cases h
 exact ⟨rfl,rfl⟩
theorem ends8_ok {a b:Iv} (h:za (zce a b)=true):za a=true/\za b=true:=by
 rw [<- Ev.ends8] at h
 cases ha:za a
 ·rw [ha] at h;simp only [Bool.false_and,Bool.not_false,ctr] at h;rw [zbn] at h;cases h
 cases hb:za b
 ·rw [ha,hb] at h;simp only [Bool.and_false,Bool.not_false,ctr] at h;rw [zbn] at h;cases h
 exact ⟨rfl,rfl⟩
theorem atanh_in {x:Re} {a:Iv} (h:In x a) (ok:za (zdj a)=true): -1<x/\x<1:=by
 rw [atanhI_val] at ok
 cases ha:za a
 ·rw [ha] at ok;simp only [Bool.not_false,ctr] at ok;rw [zbn] at ok;cases ok
 ·rw [ha] at ok
  simp only [Bool.not_true,cfl] at ok
  obtain ⟨o1,o2⟩:=ends8_ok ok
  obtain ⟨h1,h2⟩:=h ha
  have b:=(zbR a).1 ha
  have c1:=((In.atanhN (n:=a.lo) (by omega)).2 o1).1
  have c2:=((In.atanhN (n:=a.hi) (by omega)).2 o2).2
  exact ⟨lt_of_lt_of_le (by rw [<- fx_m1];exact fx_lt.2 c1) h1,lt_of_le_of_lt h2 (by rw [<- fx_1];exact fx_lt.2 c2)⟩
theorem absI_ok {a:Iv} (h:za (zbm a)=true):za a=true:=by
 simp only [zbm,t_spec_AbsI,Tr.get] at h
 cases ha:za a
 ·rw [ha] at h;simp only [Bool.not_false,ctr] at h;rw [zbn] at h;cases h
 ·rfl
theorem divI_nz {x:Re} {a b:Iv} (k:In x b) (h:za (zz a b)=true):x≠0:=by
 rcases divI_two h with c|c
 ·obtain ⟨_,o,_⟩:=divI_corner c h
  exact ne_of_gt (lt_of_lt_of_le (fx_p c) (k o).1)
 ·obtain ⟨_,o,_⟩:=divI_corner_neg c h
  exact ne_of_lt (lt_of_le_of_lt (k o).2 (fx_neg' c))
theorem rad_strict {n:Int} (h1: -hp<=Nc.rad n) (h2:Nc.rad n<=hp) (s1: -1<An.sin (Nc.rad n)) (s2:An.sin (Nc.rad n)<1): -hp<Nc.rad n/\Nc.rad n<hp:=by
 constructor
 ·rcases le_iff.1 h1 with h|h
  ·exact h
  ·rw [<- h,An.sin_neg,sin_hp] at s1;exact absurd s1 (lt_irrefl _)
 ·rcases le_iff.1 h2 with h|h
  ·exact h
  ·rw [h,sin_hp] at s2;exact absurd s2 (lt_irrefl _)
def rhL (p q:zaL):Iv:=zaa (lonD p q)
def rhS (p q:zaL):Iv:=zQ (zdj (zb5 (zaa q.lat))) (zdj (zb5 (zaa p.lat)))
def rhA (p q:zaL):Iv:=zaE (rhL p q) (rhS p q)
def rhA0 (p q:zaL):Iv:=zaE (rhL p q) ⟨⟨0,rfl⟩,⟨0,rfl⟩⟩
def rhX (p q:zaL):Iv:=zbm (zz (zQ (zaa q.lat) (zaa p.lat)) (zbD (rhA p q)))
def rhX0 (p q:zaL):Iv:=zC (zbm (rhL p q)) (zbD (zaa p.lat))
theorem rhumb_same {p q:zaL} (h1:zab p=true) (h2:zab q=true) (hl:p.lat.val=q.lat.val) (hc:(zau p q).c.val=0):
  za (rhA0 p q)=true/\(zau p q).a=rhA0 p q/\(zau p q).b=rhX0 p q:=by
 have e1:(p.lat.val==q.lat.val)=true:=by simpa using hl
 have e2:(p.lat.val != q.lat.val)=false:=by simp [hl]
 have e:zau p q=bif !za (rhA0 p q) then ⟨⟨⟨0,rfl⟩,⟨0,rfl⟩⟩,⟨⟨0,rfl⟩,⟨0,rfl⟩⟩,⟨9,rfl⟩⟩ else bif !za (rhX0 p q) then ⟨⟨⟨0,rfl⟩,⟨0,rfl⟩⟩,⟨⟨0,rfl⟩,⟨0,rfl⟩⟩,⟨9,rfl⟩⟩ else ⟨rhA0 p q,rhX0 p q,⟨0,rfl⟩⟩:=by
  simp only [zau,zff,Tr.get,h1,h2,Bool.not_true,cfl,siw_eq,e1,e2,ctr]
  rfl
 rw [e] at hc ⊢
 cases o1:za (rhA0 p q)
 ·rw [o1] at hc;simp only [Bool.not_false,ctr] at hc;exact absurd hc (by decide)
 cases o2:za (rhX0 p q)
 ·rw [o1,o2] at hc;simp only [Bool.not_false,Bool.not_true,ctr,cfl] at hc;exact absurd hc (by decide)
 exact ⟨rfl,rfl,rfl⟩
theorem rhumb_diff {p q:zaL} (h1:zab p=true) (h2:zab q=true) (hl:¬p.lat.val=q.lat.val) (hc:(zau p q).c.val=0):
  za (rhA p q)=true/\za (rhX p q)=true/\(zau p q).a=rhA p q/\(zau p q).b=rhX p q:=by
 have e1:(p.lat.val==q.lat.val)=false:=by simpa using hl
 have e2:(p.lat.val != q.lat.val)=true:=by simpa using hl
 have e:zau p q=bif !za (rhA p q) then ⟨⟨⟨0,rfl⟩,⟨0,rfl⟩⟩,⟨⟨0,rfl⟩,⟨0,rfl⟩⟩,⟨9,rfl⟩⟩ else bif !za (rhX p q) then ⟨⟨⟨0,rfl⟩,⟨0,rfl⟩⟩,⟨⟨0,rfl⟩,⟨0,rfl⟩⟩,⟨9,rfl⟩⟩ else ⟨rhA p q,rhX p q,⟨0,rfl⟩⟩:=by
  simp only [zau,zff,zcD,zdz,Tr.get,h1,h2,Bool.not_true,cfl,siw_eq,e1,e2,ctr]
  rfl
 rw [e] at hc ⊢
 cases o1:za (rhA p q)
 ·rw [o1] at hc;simp only [Bool.not_false,ctr] at hc;exact absurd hc (by decide)
 cases o2:za (rhX p q)
 ·rw [o1,o2] at hc;simp only [Bool.not_false,Bool.not_true,ctr,cfl] at hc;exact absurd hc (by decide)
 exact ⟨rfl,rfl,rfl,rfl⟩
theorem In.nil0:In 0 ⟨⟨0,rfl⟩,⟨0,rfl⟩⟩:=fun _=>by simp only [fx_0];exact ⟨le_refl _,le_refl _⟩
theorem same_real {p q:zaL} (h1:zab p=true) (h2:zab q=true) (hl:p.lat.val=q.lat.val) (o:za (rhA0 p q)=true):
  ∃α X,In α (rhA0 p q)/\In X (rhX0 p q)/\X*An.cos α=Nc.rad q.lat.val-Nc.rad p.lat.val/\ang (pv p) (pv q)<=X:=by
 have hL:In (Nc.rad (lonD p q).val) (rhL p q):=In.rad
 have nz:¬(Nc.rad (lonD p q).val=0/\(0:Re)=0):=fun ⟨k,_⟩=>by
  rw [k] at hL
  have:=dir_none hL In.nil0
  unfold rhA0 at o
  rw [this] at o;cases o
 obtain ⟨r,r0,k1,k2⟩:=dir_dr nz
 have hα:In (An.dir (Nc.rad (lonD p q).val) 0) (rhA0 p q):=hL.dir In.nil0
 have hX:In (An.abs (Nc.rad (lonD p q).val)*An.cos (Nc.rad p.lat.val)) (rhX0 p q):=hL.abs.mul In.rad.cos
 refine ⟨_,_,hα,hX,?_,?_⟩
 ·have c:An.cos (An.dir (Nc.rad (lonD p q).val) 0)=0:=eq_of_mul (ne_of_gt r0) (by rw [An.mul_comm,<- k1,An.zero_mul])
  rw [c,hl,An.mul_zero]
  generalize Nc.rad q.lat.val=u;exact An.ring [u]
 ·have b:=lat_b h1
  have e:pv q=sv (Nc.rad p.lat.val) (Nc.rad p.lon.val+Nc.rad (lonD p q).val):=by rw [lon_sv h1 h2,pv_sv,hl]
  rw [e,pv_sv]
  generalize Nc.rad (lonD p q).val=L at *
  rcases le_total 0 L with g|g
  ·have w:=parallel_way b.1 b.2 (Nc.rad p.lon.val) 1 (An.one_mul 1) g
   rw [An.one_mul] at w
   rw [zbu g];exact w
  ·have w:=parallel_way b.1 b.2 (Nc.rad p.lon.val) (-1) (by exact An.ring []) (neg_nn g)
   rw [show -1 * -L=L from An.ring [L]] at w
   rw [zfy g];exact w
theorem diff_real {p q:zaL} (h1:zab p=true) (h2:zab q=true) (hl:¬p.lat.val=q.lat.val) (o:za (rhA p q)=true) (o2:za (rhX p q)=true):
  ∃α X,In α (rhA p q)/\In X (rhX p q)/\X*An.cos α=Nc.rad q.lat.val-Nc.rad p.lat.val/\ang (pv p) (pv q)<=X:=by
 have hL:In (Nc.rad (lonD p q).val) (rhL p q):=In.rad
 have hp1:In (An.sin (Nc.rad p.lat.val)) (zb5 (zaa p.lat)):=In.rad.sin
 have hq1:In (An.sin (Nc.rad q.lat.val)) (zb5 (zaa q.lat)):=In.rad.sin
 have hS:In (psi (Nc.rad q.lat.val)-psi (Nc.rad p.lat.val)) (rhS p q):=hq1.atanh.sub hp1.atanh
 obtain ⟨_,oS⟩:=dirI_ok o
 obtain ⟨s1,s2,_⟩:=subI_val oS
 have q1:=atanh_in hq1 s1
 have p1:=atanh_in hp1 s2
 have bp:=lat_b h1
 have bq:=lat_b h2
 obtain ⟨pa,pb⟩:=rad_strict bp.1 bp.2 p1.1 p1.2
 obtain ⟨qa,qb⟩:=rad_strict bq.1 bq.2 q1.1 q1.2
 have nz:¬(Nc.rad (lonD p q).val=0/\psi (Nc.rad q.lat.val)-psi (Nc.rad p.lat.val)=0):=fun ⟨k,l⟩=>by
  rw [k] at hL
  rw [l] at hS
  have:=dir_none hL hS
  unfold rhA at o
  rw [this] at o;cases o
 obtain ⟨r,r0,k1,k2⟩:=dir_dr nz
 have hα:In (An.dir (Nc.rad (lonD p q).val) (psi (Nc.rad q.lat.val)-psi (Nc.rad p.lat.val))) (rhA p q):=hL.dir hS
 have hC:=hα.cos
 have cz:=divI_nz hC (absI_ok o2)
 have hX:In (An.abs ((Nc.rad q.lat.val-Nc.rad p.lat.val)/An.cos (An.dir (Nc.rad (lonD p q).val) (psi (Nc.rad q.lat.val)-psi (Nc.rad p.lat.val))))) (rhX p q):=((In.rad.sub In.rad).div hC).abs
 have sc:=sc_sq (An.dir (Nc.rad (lonD p q).val) (psi (Nc.rad q.lat.val)-psi (Nc.rad p.lat.val)))
 have eq:pv q=sv (Nc.rad q.lat.val) (Nc.rad p.lon.val+Nc.rad (lonD p q).val):=by rw [lon_sv h1 h2,pv_sv]
 refine ⟨_,_,hα,hX,?_⟩
 generalize An.dir (Nc.rad (lonD p q).val) (psi (Nc.rad q.lat.val)-psi (Nc.rad p.lat.val))=α at *
 have ed:(Nc.rad q.lat.val-Nc.rad p.lat.val)/An.cos α*An.cos α=Nc.rad q.lat.val-Nc.rad p.lat.val:=div_mul cz
 -- the slope
 obtain ⟨k,hk,hkc⟩:∃k,k*An.cos α=An.sin α/\k*(psi (Nc.rad q.lat.val)-psi (Nc.rad p.lat.val))=Nc.rad (lonD p q).val:=by
  refine ⟨An.sin α/An.cos α,div_mul cz,?_⟩
  have e:=div_mul (x:=An.sin α) cz
  rw [k1,k2]
  generalize An.sin α/An.cos α=t at *
  rw [<- e]
  generalize An.cos α=c
  exact An.ring [t,r,c]
 have K0:=An.sqrt_nn (1+k*k)
 have K2:=sqrt_sq (x:=1+k*k) (An.pn (qn 1) (sqn k))
 have KC:(An.sqrt (1+k*k)*An.cos α)*(An.sqrt (1+k*k)*An.cos α)=1:=by
  rw [show An.sqrt (1+k*k)*An.cos α*(An.sqrt (1+k*k)*An.cos α)=An.sqrt (1+k*k)*An.sqrt (1+k*k)*(An.cos α*An.cos α) from by generalize An.sqrt (1+k*k)=u;generalize An.cos α=c;exact An.ring [u,c],K2,show (1+k*k)*(An.cos α*An.cos α)=(k*An.cos α)*(k*An.cos α)+An.cos α*An.cos α from by generalize An.cos α=c;exact An.ring [k,c],hk,sc]
 have one1:(1:Re)*1=1:=An.one_mul 1
 rcases Int.lt_or_gt_of_ne hl with g|g
 ·have hle:=rad_up (Int.le_of_lt g)
  have pm:=psi_mono pa hle qb
  have c0:0<=An.cos α:=zde r0 (by rw [An.zero_mul,An.mul_comm,<- k1];exact sn pm)
  have w:=rhumb_way (k:=k) (l:=Nc.rad p.lon.val) pa hle qb
  rw [hkc] at w
  rw [eq,pv_sv]
  have cp:0<An.cos α:=by
   rcases le_iff.1 c0 with u|u
   ·exact u
   ·exact absurd u.symm cz
  have kc:An.sqrt (1+k*k)*An.cos α=1:=sq_eq (An.mn K0 c0) (qn 1) (by rw [KC,one1])
  have d0:0<=(Nc.rad q.lat.val-Nc.rad p.lat.val)/An.cos α:=div_n (sn hle) cp
  rw [zbu d0]
  refine ⟨ed,le_trans w (le_of_eq ?_)⟩
  refine eq_of_mul cz ?_
  rw [ed,show An.sqrt (1+k*k)*(Nc.rad q.lat.val-Nc.rad p.lat.val)*An.cos α=An.sqrt (1+k*k)*An.cos α*(Nc.rad q.lat.val-Nc.rad p.lat.val) from by generalize An.sqrt (1+k*k)=u;generalize An.cos α=c;generalize Nc.rad q.lat.val-Nc.rad p.lat.val=v;exact An.ring [u,c,v],kc,An.one_mul]
 ·have hle:=rad_up (Int.le_of_lt g)
  have pm:=psi_mono qa hle pb
  have c0:0 <= -An.cos α:=by
   have:0 <= -(psi (Nc.rad q.lat.val)-psi (Nc.rad p.lat.val)):=by
    generalize psi (Nc.rad q.lat.val)=u at *;generalize psi (Nc.rad p.lat.val)=v at *
    exact zK [u,v] (sn pm)
   refine zde r0 ?_
   rw [An.zero_mul,show -An.cos α*r= -(r*An.cos α) from by generalize An.cos α=c;exact An.ring [r,c],<- k1]
   exact this
  have w:=rhumb_way (k:=k) (l:=Nc.rad p.lon.val+Nc.rad (lonD p q).val) qa hle pb
  rw [show Nc.rad p.lon.val+Nc.rad (lonD p q).val+k*(psi (Nc.rad p.lat.val)-psi (Nc.rad q.lat.val))=Nc.rad p.lon.val from by
   rw [<- hkc];generalize psi (Nc.rad q.lat.val)=u;generalize psi (Nc.rad p.lat.val)=v;generalize Nc.rad p.lon.val=l;exact An.ring [k,u,v,l],ang_comm (sv_unit _ _) (sv_unit _ _)] at w
  rw [eq,pv_sv]
  have cp:0 < -An.cos α:=by
   rcases le_iff.1 c0 with u|u
   ·exact u
   ·exact absurd (show An.cos α=0 from by rw [show An.cos α= - -An.cos α from by generalize An.cos α=c;exact An.ring [c],<- u];exact An.ring []) cz
  have kc:An.sqrt (1+k*k) * -An.cos α=1:=sq_eq (An.mn K0 c0) (qn 1) (by
   rw [one1]
   refine Eq.trans ?_ KC
   generalize An.sqrt (1+k*k)=u;generalize An.cos α=c;exact An.ring [u,c])
  have d1:(Nc.rad q.lat.val-Nc.rad p.lat.val)/An.cos α=(Nc.rad p.lat.val-Nc.rad q.lat.val) / -An.cos α:=by
   rw [<- An.div_neg _ _ cz]
   congr 1
   generalize Nc.rad q.lat.val=u;generalize Nc.rad p.lat.val=v;exact An.ring [u,v]
  have d0:0<=(Nc.rad q.lat.val-Nc.rad p.lat.val)/An.cos α:=by rw [d1];exact div_n (sn hle) cp
  rw [zbu d0]
  refine ⟨ed,le_trans w (le_of_eq ?_)⟩
  refine eq_of_mul cz ?_
  rw [ed,show An.sqrt (1+k*k)*(Nc.rad p.lat.val-Nc.rad q.lat.val)*An.cos α=An.sqrt (1+k*k) * -An.cos α*(Nc.rad q.lat.val-Nc.rad p.lat.val) from by generalize An.sqrt (1+k*k)=u;generalize An.cos α=c;generalize Nc.rad q.lat.val=v;generalize Nc.rad p.lat.val=x;exact An.ring [u,c,v,x],kc,An.one_mul]
theorem rhumb_law {p q:zaL} (h1:zab p=true) (h2:zab q=true) (hc:(zau p q).c.val=0):
  za7 (zC (zau p q).b (zbD (zau p q).a)) (zaa (.w .i64 (q.lat.val-p.lat.val)))=true /\
  ((zbl p q).b.val=0->((F_spec_LessI (zau p q).b (zbl p q).a).val != 1)=true):=by
 obtain ⟨α,X,hα,hX,e,le⟩:∃α X,In α (zau p q).a/\In X (zau p q).b/\X*An.cos α=Nc.rad q.lat.val-Nc.rad p.lat.val/\ang (pv p) (pv q)<=X:=by
  by_cases hl:p.lat.val=q.lat.val
  ·obtain ⟨o,e1,e2⟩:=rhumb_same h1 h2 hl hc
   rw [e1,e2];exact same_real h1 h2 hl o
  ·obtain ⟨o,o2,e1,e2⟩:=rhumb_diff h1 h2 hl hc
   rw [e1,e2];exact diff_real h1 h2 hl o o2
 obtain ⟨⟨a1,a2⟩,_⟩:=ok_iff.1 h1
 obtain ⟨⟨b1,b2⟩,_⟩:=ok_iff.1 h2
 constructor
 ·have m:=hX.mul hα.cos
  rw [e] at m
  have n:=In.rad (n:= .w .i64 (q.lat.val-p.lat.val))
  rw [wi (n:=q.lat.val-p.lat.val) (by omega) (by omega),show q.lat.val-p.lat.val=q.lat.val + -p.lat.val by omega,rad_add,rad_neg] at n
  exact m.overlap n
 ·intro hd
  rw [<- angleBetween_eq] at hd ⊢
  have k:=not_less hX (angle_in h1 h2 hd) le
  simpa using k
end Go.Proofs.YtfcjhkkpbnobhaaGreat.Nc
