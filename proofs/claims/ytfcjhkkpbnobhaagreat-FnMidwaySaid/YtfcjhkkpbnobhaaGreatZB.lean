/- The law FnMidway gives true, whatever bytes come in. No conditions. (One of the texts of its proof, put together by a program of this session.) -/
import Derived.Test.YtfcjhkkpbnobhaaGreatZA
import Derived.Test.YtfcjhkkpbnobhaaGreatZW5
set_option linter.unusedSectionVars false
set_option linter.unusedSimpArgs false
set_option linter.unusedVariables false
noncomputable section
namespace Go.Proofs.YtfcjhkkpbnobhaaGreat.Nc
open Go Go.Proofs.YtfcjhkkpbnobhaaGreat.An
open Go.Proofs.YtfcjhkkpbnobhaaGreat.Ev hiding mn mul_bd neg_eq sq_lt sub_eq
def fx (n:Int):Re:=zi n*rat (1/4294967296)
def In (x:Re) (a:Iv):Prop:=zh a=true->fx a.lo.val<=x/\x<=fx a.hi.val
theorem In.no {x:Re} {a:Iv} (h:zh a=false):In x a:=fun k=>by rw [h] at k;cases k
theorem In.whole (x:Re):In x zu:=In.no zbX
theorem zfy {a b:Int}:fx a<=fx b↔a<=b:=by
 unfold fx
 constructor
 ·intro h;exact zi_le.1 (zeJ (qp (1/4294967296)) h)
 ·intro h;have:=zi_le.2 h;generalize zi a=x at *;generalize zi b=y at *;exact zY [x,y] (mn (sn this) (qn (1/4294967296)))
theorem fx_lt {a b:Int}:fx a<fx b↔a<b:=by
 rw [<- An.not_le,zfy];omega
theorem fx_add (a b:Int):fx (a+b)=fx a+fx b:=by unfold fx;rw [zi_add,An.add_mul]
theorem zfx (a:Int):fx (-a)= - fx a:=by unfold fx;rw [zi_neg,An.neg_mul]
theorem fx_sub (a b:Int):fx (a-b)=fx a-fx b:=by rw [Int.sub_eq_add_neg,fx_add,zfx];rfl
theorem fx_0:fx 0=0:=An.zero_mul _
theorem fx_unit (a:Int):fx (a*4294967296)=zi a:=by
 unfold fx;rw [zfp];generalize zi a=x
 show x*rat (4294967296:Int)*_=x
 exact ring [x]
theorem fx_1:fx 4294967296=1:=fx_unit 1
theorem fx_nn {a:Int} (h:0<=a):0<=fx a:=by rw [<- fx_0];exact zfy.2 h
theorem fx_p {a:Int} (h:0<a):0<fx a:=by rw [<- fx_0];exact fx_lt.2 h
theorem fx_neg' {a:Int} (h:a<0):fx a<0:=by rw [<- fx_0];exact fx_lt.2 h
theorem In.point {n:I64}:In (fx n.val) ⟨n,n⟩:=fun _=>⟨le_refl _,le_refl _⟩
theorem In.add {x y:Re} {a b:Iv} (h:In x a) (k:In y b):In (x+y) (zaj a b):=fun ok=>by
 obtain ⟨o1,o2,e1,e2⟩:=addI_val ok
 obtain ⟨h1,h2⟩:=h o1
 obtain ⟨k1,k2⟩:=k o2
 rw [e1,e2,fx_add,fx_add]
 exact ⟨zfg h1 k1,zfg h2 k2⟩
theorem In.sub {x y:Re} {a b:Iv} (h:In x a) (k:In y b):In (x-y) (zZ a b):=fun ok=>by
 obtain ⟨o1,o2,e1,e2⟩:=subI_val ok
 obtain ⟨h1,h2⟩:=h o1
 obtain ⟨k1,k2⟩:=k o2
 rw [e1,e2,fx_sub,fx_sub]
 generalize fx a.lo.val=p at *;generalize fx a.hi.val=q at *;generalize fx b.lo.val=r at *;generalize fx b.hi.val=s at *
 exact ⟨zY [x,y,p,q,r,s] (pn (sn h1) (sn k2)),zY [x,y,p,q,r,s] (pn (sn h2) (sn k1))⟩
theorem In.dbl {x:Re} {a:Iv} (h:In x a):In (2*x) (zcr a):=fun ok=>by
 obtain ⟨o1,e1,e2⟩:=dblI_val ok
 obtain ⟨h1,h2⟩:=h o1
 rw [e1,e2,show 2*a.lo.val=a.lo.val+a.lo.val by omega,show 2*a.hi.val=a.hi.val+a.hi.val by omega,fx_add,fx_add]
 generalize fx a.lo.val=p at *;generalize fx a.hi.val=q at *
 exact ⟨zY [x,p,q] (kn 2 (sn h1)),zY [x,p,q] (kn 2 (sn h2))⟩
theorem negI_val {a:Iv} (h:zh (zaY a)=true):zh a=true/\(zaY a).lo.val= -a.hi.val/\(zaY a).hi.val= -a.lo.val:=by
 simp only [zaY,zfQ,Tr.get] at h ⊢
 cases ha:zh a
 ·rw [ha] at h;simp only [Bool.not_false,ctr] at h;rw [zbX] at h;cases h
 have b:=(zca _).1 ha
 have e1:(Rng.w .i64 (0-a.hi.val)).val= -a.hi.val:=by rw [wi (by omega) (by omega)];omega
 have e2:(Rng.w .i64 (0-a.lo.val)).val= -a.lo.val:=by rw [wi (by omega) (by omega)];omega
 simp only [ha,Bool.not_true,cfl] at h ⊢
 rw [zc7 (by rw [e1,e2];omega)]
 exact ⟨trivial,e1,e2⟩
theorem In.neg {x:Re} {a:Iv} (h:In x a):In (-x) (zaY a):=fun ok=>by
 obtain ⟨o1,e1,e2⟩:=negI_val ok
 obtain ⟨h1,h2⟩:=h o1
 rw [e1,e2,zfx,zfx]
 generalize fx a.lo.val=p at *;generalize fx a.hi.val=q at *
 exact ⟨zY [x,q] (sn h2),zY [x,p] (sn h1)⟩
theorem fx_floor {p d:Int} (hd:0<d):zi (p/d)*zi d<=zi p:=by
 rw [<- zfp,zi_le]
 have:=Int.ediv_mul_le p (show d≠0 by omega)
 omega
theorem fx_mul_lo (x y:Int):fx (x*y/4294967296)<=fx x*fx y:=by
 have:=fx_floor (p:=x*y) (d:=4294967296) (by decide)
 rw [zfp x y] at this
 unfold fx
 generalize zi (x*y/4294967296)=q at *;generalize zi x=a at *;generalize zi y=b at *
 rw [show zi 4294967296=rat 4294967296 from rfl] at this
 exact zY [q,a,b] (kn (1/18446744073709551616) (sn this))
theorem fx_mul_hi (x y:Int):fx x*fx y<=fx (-(-(x*y)/4294967296)):=by
 have:=fx_mul_lo (-x) y
 rw [show -x*y= -(x*y) from Int.neg_mul x y,zfx x] at this
 rw [zfx]
 generalize fx (-(x*y)/4294967296)=q at *;generalize fx x=a at *;generalize fx y=b at *
 exact zY [q,a,b] (sn this)
theorem real_lo {p q r s x y L:Re} (hx:p<=x) (hx':x<=q) (hy:r<=y) (hy':y<=s) (h1:L<=p*r) (h2:L<=p*s) (h3:L<=q*r) (h4:L<=q*s):L<=x*y:=by
 have a:∀u,L<=u*r->L<=u*s->L<=u*y:=fun u k1 k2=>by
  rcases le_total 0 u with m|m
  ·exact le_trans k1 (zY [u,r,y] (mn m (sn hy)))
  ·exact le_trans k2 (zY [u,s,y] (mn (neg_nn m) (sn hy')))
 have b1:=a p h1 h2
 have b2:=a q h3 h4
 rcases le_total 0 y with m|m
 ·exact le_trans b1 (zY [p,x,y] (mn (sn hx) m))
 ·exact le_trans b2 (zY [q,x,y] (mn (sn hx') (neg_nn m)))
theorem real_hi {p q r s x y L:Re} (hx:p<=x) (hx':x<=q) (hy:r<=y) (hy':y<=s) (h1:p*r<=L) (h2:p*s<=L) (h3:q*r<=L) (h4:q*s<=L):x*y<=L:=by
 have:=real_lo (L:= -L) (p:= -q) (q:= -p) (x:= -x) (zY [q,x] (sn hx')) (zY [p,x] (sn hx)) hy hy'
  (zY [q,r,L] (sn h3)) (zY [q,s,L] (sn h4)) (zY [p,r,L] (sn h1)) (zY [p,s,L] (sn h2))
 exact zY [x,y,L] (sn this)
theorem In.mul {x y:Re} {a b:Iv} (h:In x a) (k:In y b):In (x*y) (zN a b):=fun ok=>by
 obtain ⟨o1,o2,hc⟩:=mulI_corner ok
 obtain ⟨h1,h2⟩:=h o1
 obtain ⟨k1,k2⟩:=k o2
 have lo:∀u v:I64,(u=a.lo\/u=a.hi)->(v=b.lo\/v=b.hi)->fx (zN a b).lo.val<=fx u.val*fx v.val:=fun u v hu hv=>le_trans (zfy.2 (hc u v hu hv).1) (fx_mul_lo _ _)
 have hi:∀u v:I64,(u=a.lo\/u=a.hi)->(v=b.lo\/v=b.hi)->fx u.val*fx v.val<=fx (zN a b).hi.val:=fun u v hu hv=>le_trans (fx_mul_hi _ _) (zfy.2 (hc u v hu hv).2)
 exact ⟨real_lo h1 h2 k1 k2 (lo _ _ (.inl rfl) (.inl rfl)) (lo _ _ (.inl rfl) (.inr rfl)) (lo _ _ (.inr rfl) (.inl rfl)) (lo _ _ (.inr rfl) (.inr rfl)),
  real_hi h1 h2 k1 k2 (hi _ _ (.inl rfl) (.inl rfl)) (hi _ _ (.inl rfl) (.inr rfl)) (hi _ _ (.inr rfl) (.inl rfl)) (hi _ _ (.inr rfl) (.inr rfl))⟩
theorem ends_val {a:Iv} (h:zh a=true):0<=(zH a).a.val/\((a.lo.val<=0/\0<=a.hi.val/\(zH a).a.val=0)\/(0<a.lo.val/\(zH a).a.val=a.lo.val)\/(a.hi.val<0/\(zH a).a.val= -a.hi.val)) /\
  a.hi.val<=(zH a).b.val /\ -a.lo.val<=(zH a).b.val/\(zH a).b.val<1152921504606846976/\(zH a).a.val<=(zH a).b.val:=by
 have b:=(zca _).1 h
 have n1:(Rng.w .i64 (0-a.lo.val)).val= -a.lo.val:=by rw [wi (by omega) (by omega)];omega
 have n2:(Rng.w .i64 (0-a.hi.val)).val= -a.hi.val:=by rw [wi (by omega) (by omega)];omega
 have m1:=zfR a.lo (.w .i64 (0-a.lo.val))
 have m2:=zfR a.hi (.w .i64 (0-a.hi.val))
 have m3:=zfR (zt a.lo (.w .i64 (0-a.lo.val))) (zt a.hi (.w .i64 (0-a.hi.val)))
 have m4:=min_l (zt a.lo (.w .i64 (0-a.lo.val))) (zt a.hi (.w .i64 (0-a.hi.val)))
 rw [n1] at m1
 rw [n2] at m2
 have hh:zaC a ⟨0,rfl⟩=decide (a.lo.val<=0/\0<=a.hi.val):=by simp only [zaC,zbZ,Tr.get,zfi]
 simp only [zH,zdo,Tr.get,hh]
 by_cases c:a.lo.val<=0/\0<=a.hi.val
 ·simp only [c,and_self,decide_true,ctr]
  exact ⟨by decide,by first|exact .inl trivial|simp [c.1,c.2],by omega,by omega,by omega,by omega⟩
 ·simp only [c,decide_false,cfl]
  exact ⟨by omega,by omega,by omega,by omega,by omega,by omega⟩
theorem In.ends {x:Re} {a:Iv} (h:In x a) (o:zh a=true):fx (zH a).a.val<=An.abs x/\An.abs x<=fx (zH a).b.val:=by
 obtain ⟨h1,h2⟩:=h o
 obtain ⟨e0,e1,e2,e3,e4,e5⟩:=ends_val o
 constructor
 ·rcases e1 with ⟨_,_,e⟩|⟨k,e⟩|⟨k,e⟩
  ·rw [e,fx_0];exact zcP x
  ·rw [e];exact le_trans h1 (le_abs x)
  ·rw [e,zfx]
   have:=neg_le_abs x
   generalize fx a.hi.val=q at *;generalize An.abs x=u at *
   exact zY [x,q,u] (pn (sn this) (sn h2))
 ·refine abs_le ?_ (le_trans h2 (zfy.2 e2))
  refine le_trans ?_ h1
  rw [<- zfx];exact zfy.2 (by omega)
theorem In.sqr {x:Re} {a:Iv} (h:In x a):In (x*x) (zby a):=fun ok=>by
 obtain ⟨o1,e1,e2⟩:=sqrI_val ok
 obtain ⟨h1,h2⟩:=h.ends o1
 have e0:=(ends_val o1).1
 rw [e1,e2,<- abs_sq]
 exact ⟨le_trans (fx_mul_lo _ _) (mul_le (fx_nn e0) h1 (fx_nn e0) h1),le_trans (mul_le (zcP x) h2 (zcP x) h2) (fx_mul_hi _ _)⟩
theorem zi_nn {a:Int} (h:0<=a):0<=zi a:=by rw [<- zi_0];exact zi_le.2 h
theorem fx_sq (a:Int):fx a*fx a=zi (a*a)*rat (1/18446744073709551616):=by
 unfold fx;rw [zfp];generalize zi a=x;exact ring [x]
theorem fx_up (a:Int):fx a=zi (a*4294967296)*rat (1/18446744073709551616):=by
 unfold fx;rw [zfp];generalize zi a=x;show _=x*rat (4294967296:Int)*_;exact ring [x]
theorem zk_le {a b:Int} (h:a<=b):zi a*rat (1/18446744073709551616)<=zi b*rat (1/18446744073709551616):=by
 have:=zi_le.2 h;generalize zi a=x at *;generalize zi b=y at *;exact zY [x,y] (mn (sn this) (qn (1/18446744073709551616)))
theorem In.sqrt {x:Re} {a:Iv} (h:In x a):In (An.sqrt x) (zcy a):=fun ok=>by
 obtain ⟨o1,o2⟩:=sqrtI_nn ok
 obtain ⟨_,e1,e2⟩:=sqrtI_mk o1 o2
 have b:=(zca _).1 o1
 obtain ⟨h1,h2⟩:=h o1
 have x0:=le_trans (fx_nn o2) h1
 rw [e1,e2]
 obtain ⟨q,p,s1,s2,t0,t1,t2,t3,t4,t5,t6,t7⟩:=su_val2 a.lo (by omega)
 obtain ⟨q',p',s1',s2',t0',t1',t2',t3',t4',t5',t6',t7'⟩:=su_val2 a.hi (by omega)
 rw [s1,s2']
 simp only
 constructor
 ·refine sq_le (An.sqrt_nn x) ?_
  rw [An.sqrt_sq x0,fx_sq]
  refine le_trans ?_ h1
  rw [fx_up];exact zk_le t2
 ·refine sq_le (fx_nn (by omega)) ?_
  rw [An.sqrt_sq x0,fx_sq]
  refine le_trans h2 ?_
  rw [fx_up];exact zk_le t6'
theorem fx_div_lo {x y:Int} (hy:0<y):fx (x*4294967296/y)<=fx x/fx y:=by
 rw [le_div (fx_p hy)]
 have:=fx_floor (p:=x*4294967296) hy
 unfold fx
 rw [zfp x] at this
 generalize zi (x*4294967296/y)=q at *;generalize zi x=a at *;generalize zi y=b at *
 rw [show zi 4294967296=rat 4294967296 from rfl] at this
 exact zY [q,a,b] (kn (1/18446744073709551616) (sn this))
theorem neg_div (x y:Re): -x/y= -(x/y):=by rw [div_eq,div_eq,An.neg_mul]
theorem fx_div_hi {x y:Int} (hy:0<y):fx x/fx y<=fx (-(-x*4294967296/y)):=by
 have:=fx_div_lo (x:= -x) hy
 rw [zfx,neg_div] at this
 rw [zfx]
 generalize fx (-x*4294967296/y)=q at *;generalize fx x/fx y=a at *
 exact zY [q,a] (sn this)
theorem inv_le {y s:Re} (h0:0<y) (h:y<=s):s⁻¹<=y⁻¹:=by
 have hs:=lt_of_lt_of_le h0 h
 have e1:=mul_inv (ne_of_gt h0)
 have e2:=mul_inv (ne_of_gt hs)
 refine zeJ (mp h0 hs) ?_
 generalize y⁻¹=a at *;generalize s⁻¹=b at *
 rw [show b*(y*s)=y*(s*b) from ring [b,y,s],show a*(y*s)=s*(y*a) from ring [a,y,s],e1,e2]
 exact zY [y,s] (sn h)
theorem In.div_pos {x y:Re} {a b:Iv} (h:In x a) (k:In y b) (h0:0<b.lo.val):In (x/y) (zB a b):=fun ok=>by
 obtain ⟨o1,o2,hc⟩:=divI_corner h0 ok
 obtain ⟨h1,h2⟩:=h o1
 obtain ⟨k1,k2⟩:=k o2
 have b':=(zca _).1 o2
 have y0:=lt_of_lt_of_le (fx_p h0) k1
 have i1:=inv_le y0 k2
 have i2:=inv_le (fx_p h0) k1
 have p0:∀v:I64,(v=b.lo\/v=b.hi)->0<v.val:=by rintro v (rfl|rfl)<;>omega
 have lo:∀u v:I64,(u=a.lo\/u=a.hi)->(v=b.lo\/v=b.hi)->fx (zB a b).lo.val<=fx u.val*(fx v.val)⁻¹:=fun u v hu hv=>le_trans (zfy.2 (hc u v hu hv).1) (fx_div_lo (p0 v hv))
 have hi:∀u v:I64,(u=a.lo\/u=a.hi)->(v=b.lo\/v=b.hi)->fx u.val*(fx v.val)⁻¹<=fx (zB a b).hi.val:=fun u v hu hv=>le_trans (fx_div_hi (p0 v hv)) (zfy.2 (hc u v hu hv).2)
 exact ⟨real_lo h1 h2 i1 i2 (lo _ _ (.inl rfl) (.inr rfl)) (lo _ _ (.inl rfl) (.inl rfl)) (lo _ _ (.inr rfl) (.inr rfl)) (lo _ _ (.inr rfl) (.inl rfl)),
  real_hi h1 h2 i1 i2 (hi _ _ (.inl rfl) (.inr rfl)) (hi _ _ (.inl rfl) (.inl rfl)) (hi _ _ (.inr rfl) (.inr rfl)) (hi _ _ (.inr rfl) (.inl rfl))⟩
end Go.Proofs.YtfcjhkkpbnobhaaGreat.Nc
namespace Go.Proofs.YtfcjhkkpbnobhaaGreat.Nc
open Go Go.Proofs.YtfcjhkkpbnobhaaGreat.An
open Go.Proofs.YtfcjhkkpbnobhaaGreat.Ev hiding mn mul_bd neg_eq sq_lt sub_eq
theorem hull_in {a b:Iv} (ha:zh a=true) (hb:zh b=true):zh (zS a b)=true/\(zS a b).lo.val<=a.lo.val/\(zS a b).lo.val<=b.lo.val/\a.hi.val<=(zS a b).hi.val/\b.hi.val<=(zS a b).hi.val/\((zS a b).lo.val=a.lo.val\/(zS a b).lo.val=b.lo.val)/\((zS a b).hi.val=a.hi.val\/(zS a b).hi.val=b.hi.val):=by
 have oa:=(zca _).1 ha
 have ob:=(zca _).1 hb
 have m1:=min_l a.lo b.lo
 have m2:=zfR a.hi b.hi
 simp only [zS,zfZ,Tr.get,ha,hb,Bool.not_true,cfl]
 rw [zc7 (by omega)]
 exact ⟨(zca _).2 (by simp only;omega),by simp only;omega,by simp only;omega,by simp only;omega,by simp only;omega,by simp only;omega,by simp only;omega⟩
theorem hull_ok {a b:Iv} (h:zh (zS a b)=true):zh a=true/\zh b=true:=by
 simp only [zS,zfZ,Tr.get] at h
 cases ha:zh a
 ·rw [ha] at h;simp only [Bool.not_false,ctr] at h;rw [zbX] at h;cases h
 cases hb:zh b
 ·rw [ha,hb] at h;simp only [Bool.not_false,Bool.not_true,ctr,cfl] at h;rw [zbX] at h;cases h
 exact ⟨rfl,rfl⟩
theorem In.hull_l {x:Re} {a b:Iv} (h:In x a):In x (zS a b):=fun ok=>by
 obtain ⟨oa,ob⟩:=hull_ok ok
 have hv:=hull_in oa ob
 obtain ⟨h1,h2⟩:=h oa
 exact ⟨le_trans (zfy.2 hv.2.1) h1,le_trans h2 (zfy.2 hv.2.2.2.1)⟩
theorem In.hull_r {x:Re} {a b:Iv} (h:In x b):In x (zS a b):=fun ok=>by
 obtain ⟨oa,ob⟩:=hull_ok ok
 have hv:=hull_in oa ob
 obtain ⟨h1,h2⟩:=h ob
 exact ⟨le_trans (zfy.2 hv.2.2.1) h1,le_trans h2 (zfy.2 hv.2.2.2.2.1)⟩
theorem In.between {x y z:Re} {a:Iv} (h:In x a) (k:In y a) (h1:x<=z) (h2:z<=y):In z a:=fun ok=>⟨le_trans (h ok).1 h1,le_trans h2 (k ok).2⟩
theorem In.int {n:I64} (h: -268435455<=n.val/\n.val<=268435455):In (zi n.val) (zF n):=fun _=>by
 have e:(Rng.w .i64 (n.val*4294967296)).val=n.val*4294967296:=wi (by omega) (by omega)
 rw [int_val h]
 simp only [e,fx_unit]
 exact ⟨le_refl _,le_refl _⟩
theorem In.one:In 1 (zF ⟨1,rfl⟩):=In.int (n:=⟨1,rfl⟩) (by decide)
theorem int_ok {n:I64} (h: -268435455<=n.val/\n.val<=268435455):zh (zF n)=true/\(zF n).lo.val=n.val*4294967296/\(zF n).hi.val=n.val*4294967296:=by
 have e:(Rng.w .i64 (n.val*4294967296)).val=n.val*4294967296:=wi (by omega) (by omega)
 rw [int_val h]
 exact ⟨(zca _).2 (by simp only [e];omega),e,e⟩
theorem In.over {x:Re} {a:Iv} (h:In x a) {n:I64} (q:Nat) (hn:n.val=((q+1:Nat):Int)) (hq:q<=268435454):In (x*rat (1/((q+1:Nat):Rat))) (zB a (zF n)):=by
 have hb: -268435455<=n.val/\n.val<=268435455:=by omega
 have:=h.div_pos (In.int hb) (by rw [(int_ok hb).2.1];omega)
 have e:x/zi n.val=x*rat (1/((q+1:Nat):Rat)):=by
  rw [hn,zi_nat]
  have i:=inv_nat q
  have p:0<rat ((q+1:Nat):Rat):=nat_p (Nat.succ_pos q)
  refine eq_of_mul (ne_of_gt p) ?_
  rw [div_mul (ne_of_gt p)]
  generalize rat ((q+1:Nat):Rat)=u at *;generalize rat (1/((q+1:Nat):Rat))=v at *
  exact eq_by [x,u,v] (congrArg (fun t=>x * -t) i:x * -(u*v)=x * -1)
 rwa [e] at this
theorem ring_ok:zh zL=true/\zL.lo.val= -4294967296/\zL.hi.val=4294967296:=⟨(zca _).2 (by decide +kernel),rfl,rfl⟩
theorem fx_m1:fx (-4294967296)= -1:=by rw [zfx,fx_1]
theorem In.ring {x:Re} (h1: -1<=x) (h2:x<=1):In x zL:=fun _=>by
 rw [ring_ok.2.1,ring_ok.2.2,fx_m1,fx_1];exact ⟨h1,h2⟩
theorem In.tiny {x:Re} (h:An.abs x<=rat (1/4294967296)):In x zbr:=fun _=>by
 obtain ⟨a,b⟩:=zeI h
 have e1:zbr.lo.val= -1:=rfl
 have e2:zbr.hi.val=1:=rfl
 have e3:fx 1=rat (1/4294967296):=one_mul _
 rw [e1,e2,zfx,e3];exact ⟨a,b⟩
theorem meet_in (a:Iv):zh (zat a)=true /\ -4294967296<=(zat a).lo.val/\(zat a).hi.val<=4294967296 /\
  ((zat a).lo.val= -4294967296\/(zh a=true/\(zat a).lo.val=a.lo.val))/\((zat a).hi.val=4294967296\/(zh a=true/\(zat a).hi.val=a.hi.val)):=by
 have o:=ring_ok.1
 have e1:zL.lo.val= -4294967296:=rfl
 have e2:zL.hi.val=4294967296:=rfl
 simp only [zat,zfr,zcz,zdR,Tr.get,o,Bool.not_true,cfl]
 cases ha:zh a
 ·simp only [Bool.not_false,Bool.not_true,ctr,cfl];exact ⟨o,by omega,by omega,.inl e1,.inl e2⟩
 have ba:=(zca _).1 ha
 have m1:=zfR a.lo zL.lo
 have m2:=min_l a.hi zL.hi
 rw [e1] at m1
 rw [e2] at m2
 simp only [Bool.not_true,cfl]
 by_cases hlt:(zt a.lo zL.lo).val>(zz a.hi zL.hi).val
 ·simp only [hlt,decide_true,ctr,Bool.not_false];exact ⟨o,by omega,by omega,.inl e1,.inl e2⟩
 ·simp only [hlt,decide_false,cfl,Bool.not_true]
  refine ⟨(zca _).2 (by first|omega|(simp only;omega)),by first|omega|(simp only;omega),by first|omega|(simp only;omega),?_,?_⟩
  ·simp only [true_and];omega
  ·simp only [true_and];omega
theorem In.meet {x:Re} {a:Iv} (h:In x a) (h1: -1<=x) (h2:x<=1):In x (zat a):=fun ok=>by
 obtain ⟨_,_,_,m1,m2⟩:=meet_in a
 constructor
 ·rcases m1 with e|⟨o,e⟩
  ·rw [e,fx_m1];exact h1
  ·rw [e];exact (h o).1
 ·rcases m2 with e|⟨o,e⟩
  ·rw [e,fx_1];exact h2
  ·rw [e];exact (h o).2
def chk (n:Int):Bool:=decide ((n*7244019458077122842)%1073741824+n<=1073741824)
def chkTo:Nat->Bool
 | 0=>true
 | n+1=>chk ((n+1:Nat):Int)&&chkTo n
theorem chk_all:chkTo 4096=true:=by kernel_rfl
theorem chk_of {n:Nat} (h:chkTo n=true) {m:Int} (h1:0<m) (h2:m<=(n:Int)):(m*7244019458077122842)%1073741824+m<=1073741824:=by
 induction n with
 | zero=>exact absurd h1 (by omega)
 | succ n ih=>
  simp only [chkTo,Bool.and_eq_true] at h
  by_cases k:m=((n+1:Nat):Int)
  ·rw [k];exact of_decide_eq_true h.1
  ·exact ih h.2 (by omega)
theorem turn_val {k:I64} (h:0<k.val) (h':k.val<=4096):(zbs k).lo.val=k.val*7244019458077122842/1073741824/\(zbs k).hi.val=k.val*7244019458077122842/1073741824+1 /\
  (zbD k).lo.val=k.val*7244019458077122842/1073741824/\(zbD k).hi.val=k.val*7244019458077122842/1073741824+1:=by
 obtain ⟨e,b1,b2⟩:=turn_lo h h'
 have e0:(k.val==0)=false:=by simp;omega
 have hd:decide (k.val<0)=false:=by simp;omega
 simp only [zbs,zcl,zbD,zcG,Tr.get,e0,hd,e,cfl]
 have e1:(Rng.w .i64 (k.val*7244019458077122842/1073741824)).val=k.val*7244019458077122842/1073741824:=wi (by omega) (by omega)
 rw [e1]
 have e2:(Rng.w .i64 (k.val*7244019458077122842/1073741824+1)).val=k.val*7244019458077122842/1073741824+1:=wi (by omega) (by omega)
 exact ⟨rfl,e2,rfl,e2⟩
theorem turn_real {k:Int} (h:0<k) (h':k<=4096):fx (k*7244019458077122842/1073741824)<=qt k/\qt k<=fx (k*7244019458077122842/1073741824+1):=by
 have hk2:=chk_of chk_all (m:=k) h (by omega)
 have f1:(k*7244019458077122842/1073741824)*1073741824<=k*7244019458077122842:=by omega
 have f2:k*7244019458077122843<=(k*7244019458077122842/1073741824+1)*1073741824:=by omega
 have g1:=zi_le.2 f1
 have g2:=zi_le.2 f2
 rw [zfp,zfp] at g1 g2
 have z0:=zi_nn (show 0<=k by omega)
 have p1:=hp_lo
 have p2:=hp_hi
 unfold fx qt
 generalize zi (k*7244019458077122842/1073741824)=q at *;generalize zi (k*7244019458077122842/1073741824+1)=q' at *;generalize zi k=z at *
 rw [show zi 1073741824=rat 1073741824 from rfl] at g1 g2
 rw [show zi 7244019458077122842=rat 7244019458077122842 from rfl] at g1
 rw [show zi 7244019458077122843=rat 7244019458077122843 from rfl] at g2
 generalize hp=p at *
 exact ⟨zY [q,z,p] (pn (kn (1/4611686018427387904) (sn g1)) (mn z0 (sn p1))),zY [q',z,p] (pn (kn (1/4611686018427387904) (sn g2)) (mn z0 (sn p2)))⟩
theorem In.turn {k:I64} (h: -4096<=k.val) (h':k.val<=4096):zh (zR k)=true/\fx (zR k).lo.val<=qt k.val/\qt k.val<=fx (zR k).hi.val:=by
 obtain ⟨g,e⟩:=turn_in h h'
 rw [e]
 by_cases k0:k.val=0
 ·have e0:(k.val==0)=true:=by simp [k0]
  have ev:zbs k=⟨⟨0,rfl⟩,⟨0,rfl⟩⟩:=by simp only [zbs,zcl,Tr.get,e0,ctr]
  rw [ev,k0]
  refine ⟨(zca _).2 (by decide),?_,?_⟩
  ·show fx 0<=qt 0;rw [fx_0,qt_0];exact le_refl _
  ·show qt 0<=fx 0;rw [fx_0,qt_0];exact le_refl _
 by_cases kp:0<k.val
 ·obtain ⟨v1,v2,_,_⟩:=turn_val kp h'
  obtain ⟨r1,r2⟩:=turn_real kp h'
  refine ⟨(zca _).2 ?_,by rw [v1];exact r1,by rw [v2];exact r2⟩
  rw [v1,v2];omega
 ·have en:(Rng.w .i64 (0-k.val)).val= -k.val:=by rw [wi (by omega) (by omega)];omega
  obtain ⟨_,_,v1,v2⟩:=turn_val (k:= .w .i64 (0-k.val)) (by rw [en];omega) (by rw [en];omega)
  obtain ⟨r1,r2⟩:=turn_real (k:= -k.val) (by omega) (by omega)
  rw [en] at v1 v2
  have e0:(k.val==0)=false:=by simp [k0]
  have hd:decide (k.val<0)=true:=by simp;omega
  obtain ⟨x,h1,h2,h3⟩:=turn_p (.w .i64 (0-k.val)) (by rw [en];omega) (by rw [en];omega)
  have g1:zde (.w .i64 (0-k.val))=true:=by unfold zde;rw [h1];rfl
  have w1:(Rng.w .i64 (0-(zbD (.w .i64 (0-k.val))).hi.val)).val= -(-k.val*7244019458077122842/1073741824+1):=by rw [v2,wi (by omega) (by omega)];omega
  have w2:(Rng.w .i64 (0-(zbD (.w .i64 (0-k.val))).lo.val)).val= -(-k.val*7244019458077122842/1073741824):=by rw [v1,wi (by omega) (by omega)];omega
  have ev:zbs k=⟨.w .i64 (0-(zbD (.w .i64 (0-k.val))).hi.val),.w .i64 (0-(zbD (.w .i64 (0-k.val))).lo.val)⟩:=by
   simp only [zbs,zcl,Tr.get,e0,hd,g1,ctr,cfl]
  rw [ev]
  simp only [w1,w2]
  have qn':=qt_neg k.val
  rw [qn'] at r1 r2
  refine ⟨(zca _).2 (by simp only [w1,w2];omega),?_,?_⟩
  ·rw [zfx];generalize fx (-k.val*7244019458077122842/1073741824+1)=u at *;generalize qt k.val=v at *;exact zY [u,v] (sn r2)
  ·rw [zfx];generalize fx (-k.val*7244019458077122842/1073741824)=u at *;generalize qt k.val=v at *;exact zY [u,v] (sn r1)
theorem In.turn' {k:I64} (h: -4096<=k.val) (h':k.val<=4096):In (qt k.val) (zR k):=fun _=>(In.turn h h').2
def rad (n:Int):Re:=zi n*(hp*rat (1/900000000))
theorem rad_neg (n:Int):rad (-n)= - rad n:=by unfold rad;rw [zi_neg,An.neg_mul]
theorem rad_0:rad 0=0:=An.zero_mul _
theorem rad_real {n:Int} (h:0<n):fx (n*7244019458077122842/966367641600000000)<=rad n/\rad n<=fx (n*7244019458077122843/966367641600000000+1):=by
 have f1:(n*7244019458077122842/966367641600000000)*966367641600000000<=n*7244019458077122842:=by omega
 have f2:n*7244019458077122843<=(n*7244019458077122843/966367641600000000+1)*966367641600000000:=by omega
 have g1:=zi_le.2 f1
 have g2:=zi_le.2 f2
 rw [zfp,zfp] at g1 g2
 have z0:=zi_nn (show 0<=n by omega)
 have p1:=hp_lo
 have p2:=hp_hi
 unfold fx rad
 generalize zi (n*7244019458077122842/966367641600000000)=q at *;generalize zi (n*7244019458077122843/966367641600000000+1)=q' at *;generalize zi n=z at *
 rw [show zi 966367641600000000=rat 966367641600000000 from rfl] at g1 g2
 rw [show zi 7244019458077122842=rat 7244019458077122842 from rfl] at g1
 rw [show zi 7244019458077122843=rat 7244019458077122843 from rfl] at g2
 generalize hp=p at *
 exact ⟨zY [q,z,p] (pn (kn (1/4150517416584649113600000000) (sn g1)) (kn (1/900000000) (mn z0 (sn p1)))),zY [q',z,p] (pn (kn (1/4150517416584649113600000000) (sn g2)) (kn (1/900000000) (mn z0 (sn p2))))⟩
theorem rad_val {n:I64} (h:0<n.val) (h':n.val<=36000000000):((zaN n).lo.val=n.val*7244019458077122842/966367641600000000/\(zaN n).hi.val=n.val*7244019458077122843/966367641600000000+1) /\
  ((zcE n).lo.val=n.val*7244019458077122842/966367641600000000/\(zcE n).hi.val=n.val*7244019458077122843/966367641600000000+1)/\zeu n=true:=by
 have e0:(n.val==0)=false:=by simp;omega
 have hd:decide (n.val<0)=false:=by simp;omega
 have hi:zaE n ⟨(-36000000000),rfl⟩ ⟨36000000000,rfl⟩=true:=by rw [zfi];simp;omega
 have m1:zaR n ⟨7244019458077122842,rfl⟩ ⟨966367641600000000,rfl⟩=⟨.w .i64 (n.val*7244019458077122842/966367641600000000),true⟩:=by
  rw [zd9,MD,if_pos (by decide)];exact narrow_ok (by simp only;omega) (by simp only;omega)
 have m2:zaR n ⟨7244019458077122843,rfl⟩ ⟨966367641600000000,rfl⟩=⟨.w .i64 (n.val*7244019458077122843/966367641600000000),true⟩:=by
  rw [zd9,MD,if_pos (by decide)];exact narrow_ok (by simp only;omega) (by simp only;omega)
 have w1:(Rng.w .i64 (n.val*7244019458077122842/966367641600000000)).val=n.val*7244019458077122842/966367641600000000:=wi (by omega) (by omega)
 have w2:(Rng.w .i64 (n.val*7244019458077122843/966367641600000000)).val=n.val*7244019458077122843/966367641600000000:=wi (by omega) (by omega)
 have w3:(Rng.w .i64 (n.val*7244019458077122843/966367641600000000+1)).val=n.val*7244019458077122843/966367641600000000+1:=wi (by omega) (by omega)
 refine ⟨?_,?_,?_⟩
 ·simp only [zaN,zbK,Tr.get,hi,e0,hd,m1,m2,md_G_spec,ctr,cfl,Bool.not_true,w1,w2,w3,and_self]
 ·simp only [zcE,zb1,Tr.get,hi,e0,hd,m1,m2,md_G_spec,ctr,cfl,Bool.not_true,w1,w2,w3,and_self]
 ·simp only [zeu,zb1,Tr.opt,hi,e0,hd,m1,m2,md_G_spec,ctr,cfl,Bool.not_true,Option.isSome]
theorem In.rad {n:I64}:In (rad n.val) (zaN n):=by
 by_cases hr: -36000000000<=n.val/\n.val<=36000000000
 ·have hi:zaE n ⟨(-36000000000),rfl⟩ ⟨36000000000,rfl⟩=true:=by rw [zfi];simpa using hr
  by_cases k0:n.val=0
  ·have e0:(n.val==0)=true:=by simp [k0]
   have ev:zaN n=⟨⟨0,rfl⟩,⟨0,rfl⟩⟩:=by simp only [zaN,zbK,Tr.get,hi,e0,ctr,cfl,Bool.not_true]
   rw [ev,k0]
   intro _
   show fx 0<=Nc.rad 0/\Nc.rad 0<=fx 0
   rw [fx_0,rad_0];exact ⟨le_refl _,le_refl _⟩
  by_cases kp:0<n.val
  ·intro _
   rw [(rad_val kp hr.2).1.1,(rad_val kp hr.2).1.2]
   exact rad_real kp
  ·have en:(Rng.w .i64 (0-n.val)).val= -n.val:=by rw [wi (by omega) (by omega)];omega
   obtain ⟨_,⟨v1,v2⟩,g⟩:=rad_val (n:= .w .i64 (0-n.val)) (by rw [en];omega) (by rw [en];omega)
   have e0:(n.val==0)=false:=by simp [k0]
   have hd:decide (n.val<0)=true:=by simp;omega
   simp only [zaN,zbK,Tr.get,hi,e0,hd,g,ctr,cfl,Bool.not_true]
   have:In (Nc.rad (-n.val)) (zcE (.w .i64 (0-n.val))):=fun _=>by
    rw [v1,v2,en];exact rad_real (by omega)
   have:=this.neg
   rw [rad_neg] at this
   rwa [show - - Nc.rad n.val=Nc.rad n.val from by generalize Nc.rad n.val=u;exact An.ring [u]] at this
 ·have hi:zaE n ⟨(-36000000000),rfl⟩ ⟨36000000000,rfl⟩=false:=by rw [zfi];simpa using hr
  simp only [zaN,zbK,Tr.get,hi,Bool.not_false,ctr,zcu]
  exact In.whole _
end Go.Proofs.YtfcjhkkpbnobhaaGreat.Nc
namespace Go.Proofs.YtfcjhkkpbnobhaaGreat.Nc
open Go Go.Proofs.YtfcjhkkpbnobhaaGreat.An
open Go.Proofs.YtfcjhkkpbnobhaaGreat.Ev hiding mn mul_bd neg_eq sq_lt sub_eq
theorem In.over' {x:Re} {a:Iv} (h:In x a) {n:I64} (q:Nat) (r:Rat) (hn:n.val=((q+1:Nat):Int):=by kernel_rfl) (hq:decide (q<=268435454)=true:=by kernel_rfl) (hr:1/((q+1:Nat):Rat)=r:=by kernel_rfl):In (x*rat r) (zB a (zF n)):=by
 rw [<- hr];exact h.over q hn (of_decide_eq_true hq)
theorem In.series0 {y:Re} {a:Iv} (h:In y a):In (1-y*rat (1/6)*(1-y*rat (1/20)*(1-y*rat (1/42)*(1-y*rat (1/72)*(1-y*rat (1/110)*(1-y*rat (1/156)*(1-y*rat (1/210)*(1-y*rat (1/272)*1)))))))) (zaM a ⟨0,rfl⟩):=by
 simp only [zaM,zcb,Tr.get]
 exact (In.sub In.one (In.mul (h.over' 5 (1/6)) (In.sub In.one (In.mul (h.over' 19 (1/20)) (In.sub In.one (In.mul (h.over' 41 (1/42)) (In.sub In.one (In.mul (h.over' 71 (1/72)) (In.sub In.one (In.mul (h.over' 109 (1/110)) (In.sub In.one (In.mul (h.over' 155 (1/156)) (In.sub In.one (In.mul (h.over' 209 (1/210)) (In.sub In.one (In.mul (h.over' 271 (1/272)) In.one))))))))))))))))
theorem In.series1 {y:Re} {a:Iv} (h:In y a):In (1-y*rat (1/2)*(1-y*rat (1/12)*(1-y*rat (1/30)*(1-y*rat (1/56)*(1-y*rat (1/90)*(1-y*rat (1/132)*(1-y*rat (1/182)*(1-y*rat (1/240)*1)))))))) (zaM a ⟨-1,rfl⟩):=by
 simp only [zaM,zcb,Tr.get]
 exact (In.sub In.one (In.mul (h.over' 1 (1/2)) (In.sub In.one (In.mul (h.over' 11 (1/12)) (In.sub In.one (In.mul (h.over' 29 (1/30)) (In.sub In.one (In.mul (h.over' 55 (1/56)) (In.sub In.one (In.mul (h.over' 89 (1/90)) (In.sub In.one (In.mul (h.over' 131 (1/132)) (In.sub In.one (In.mul (h.over' 181 (1/182)) (In.sub In.one (In.mul (h.over' 239 (1/240)) In.one))))))))))))))))
theorem ring_in {a:Iv} (h:zaP a zL=true):zh a=true /\ -4294967296<=a.lo.val/\a.hi.val<=4294967296:=by
 have e1:zL.lo.val= -4294967296:=rfl
 have e2:zL.hi.val=4294967296:=rfl
 simp only [zaP,zdq,Tr.get,ring_ok.1,Bool.not_true,cfl,e1,e2] at h
 revert h
 cases zh a<;>by_cases h1: -4294967296<=a.lo.val<;>simp [h1,ctr,cfl]
theorem In.abs1 {x:Re} {a:Iv} (h:In x a) (k:zaP a zL=true):An.abs x<=1:=by
 obtain ⟨o,k1,k2⟩:=ring_in k
 obtain ⟨h1,h2⟩:=h o
 have l1:=zfy.2 k1
 have l2:=zfy.2 k2
 rw [fx_m1] at l1
 rw [fx_1] at l2
 exact abs_le (le_trans l1 h1) (le_trans h2 l2)
theorem In.sinS {x:Re} {a:Iv} (h:In x a):In (sin x) (za7 a):=by
 simp only [za7,zc9,Tr.get,zcu]
 cases hi:zaP a zL
 ·exact In.whole _
 simp only [Bool.not_true,cfl]
 have e:=le_trans (sin_horner (h.abs1 hi)) (num_le _ (1/4294967296))
 have:=(h.mul h.sqr.series0).add (In.tiny e)
 generalize x*(1-(x*x)*rat (1/6)*(1-(x*x)*rat (1/20)*(1-(x*x)*rat (1/42)*(1-(x*x)*rat (1/72)*(1-(x*x)*rat (1/110)*(1-(x*x)*rat (1/156)*(1-(x*x)*rat (1/210)*(1-(x*x)*rat (1/272)*1))))))))=u at *;generalize sin x=s at *
 rwa [show u+(s-u)=s from An.ring [u,s]] at this
theorem In.cosS {x:Re} {a:Iv} (h:In x a):In (cos x) (za8 a):=by
 simp only [za8,zdb,Tr.get,zcu]
 cases hi:zaP a zL
 ·exact In.whole _
 simp only [Bool.not_true,cfl]
 have e:=le_trans (cos_horner (h.abs1 hi)) (num_le _ (1/4294967296))
 have:=h.sqr.series1.add (In.tiny e)
 generalize (1-(x*x)*rat (1/2)*(1-(x*x)*rat (1/12)*(1-(x*x)*rat (1/30)*(1-(x*x)*rat (1/56)*(1-(x*x)*rat (1/90)*(1-(x*x)*rat (1/132)*(1-(x*x)*rat (1/182)*(1-(x*x)*rat (1/240)*1))))))))=u at *;generalize cos x=s at *
 rwa [show u+(s-u)=s from An.ring [u,s]] at this
def and4 (x:Int):Bool:=(Rng.w .i64 (zbf .and .i64 (Rng.w .i64 x).val 3)).val==x%4
def and4To:Nat->Bool
 | 0=>and4 0
 | n+1=>and4 (n+1:Nat)&&(and4 (-((n+1:Nat):Int))&&and4To n)
theorem and4_all:and4To 600=true:=by kernel_rfl
theorem and4_of {n:Nat} (h:and4To n=true) {m:Int} (h1: -(n:Int)<=m) (h2:m<=n):(Rng.w .i64 (zbf .and .i64 (Rng.w .i64 m).val 3)).val=m%4:=by
 induction n with
 | zero=>
  have:m=0:=by omega
  subst this
  exact eq_of_beq h
 | succ n ih=>
  simp only [and4To,Bool.and_eq_true] at h
  by_cases k1:m=((n+1:Nat):Int)
  ·have:=h.1
   rw [<- k1] at this
   exact eq_of_beq this
  by_cases k2:m= -((n+1:Nat):Int)
  ·have:=h.2.1
   rw [<- k2] at this
   exact eq_of_beq this
  exact ih h.2.2 (by omega) (by omega)
theorem and4_eq {m:Int} (h1: -600<=m) (h2:m<=600):(Rng.w .i64 (zbf .and .i64 (Rng.w .i64 m).val 3)).val=m%4:=and4_of and4_all h1 h2
theorem sin_in (x:Re): -1<=sin x/\sin x<=1:=⟨sin_gem1 x,sin_le1 x⟩
theorem In.at {n t:I64} (ht:0<=t.val/\t.val<=3):In (sin (fx n.val+qt t.val)) (zbv n t):=by
 have hs:=sin_in (fx n.val+qt t.val)
 simp only [zbv,zfX,Tr.get]
 cases zaQ n
 ·exact In.ring hs.1 hs.2
 have hb:=quarter_bd n
 have h4:=and4_eq (m:=(zad n).val+t.val) (by omega) (by omega)
 have hk:In (fx n.val-qt (zad n).val) (zZ (zw n) (zR (zad n))):=by
  refine In.sub ?_ (In.turn' (by omega) (by omega))
  simp only [zw,t_spec_l05At,Tr.get]
  exact In.point
 simp only [Bool.not_true,cfl,h4]
 generalize zZ (zw n) (zR (zad n))=c at hk
 have e:fx n.val+qt t.val=(fx n.val-qt (zad n).val)+qt ((zad n).val+t.val):=by
  rw [qt_add];generalize fx n.val=u;generalize qt (zad n).val=v;generalize qt t.val=w;exact An.ring [u,v,w]
 rw [e] at hs ⊢
 generalize fx n.val-qt (zad n).val=r at *
 generalize (zad n).val+t.val=k at *
 have hk4:k%4=0\/k%4=1\/k%4=2\/k%4=3:=by omega
 rcases hk4 with h|h|h|h
 ·have e0:(k%4==0)=true:=by simp [h]
  simp only [e0,ctr]
  rw [sin_q0 r h] at hs ⊢
  exact hk.sinS.meet hs.1 hs.2
 ·have e0:(k%4==0)=false:=by simp [h]
  have e1:(k%4==1)=true:=by simp [h]
  simp only [e0,e1,ctr,cfl]
  rw [sin_q1 r h] at hs ⊢
  exact hk.cosS.meet hs.1 hs.2
 ·have e0:(k%4==0)=false:=by simp [h]
  have e1:(k%4==1)=false:=by simp [h]
  have e2:(k%4==2)=true:=by simp [h]
  simp only [e0,e1,e2,ctr,cfl]
  rw [sin_q2 r h] at hs ⊢
  exact hk.sinS.neg.meet hs.1 hs.2
 ·have e0:(k%4==0)=false:=by simp [h]
  have e1:(k%4==1)=false:=by simp [h]
  have e2:(k%4==2)=false:=by simp [h]
  simp only [e0,e1,e2,cfl]
  rw [sin_q3 r h] at hs ⊢
  exact hk.cosS.neg.meet hs.1 hs.2
theorem ring_bd:zh zL=true /\ -4294967296<=zL.lo.val/\zL.hi.val<=4294967296:=⟨ring_ok.1,by rw [ring_ok.2.1];decide,by rw [ring_ok.2.2];decide⟩
theorem at_in (n t:I64):zh (zbv n t)=true /\ -4294967296<=(zbv n t).lo.val/\(zbv n t).hi.val<=4294967296:=by
 have m:∀a,zh (zat a)=true /\ -4294967296<=(zat a).lo.val/\(zat a).hi.val<=4294967296:=fun a=>⟨(meet_in a).1,(meet_in a).2.1,(meet_in a).2.2.1⟩
 simp only [zbv,zfX,Tr.get]
 cases zaQ n
 ·exact ring_bd
 simp only [Bool.not_true,cfl]
 generalize ((Rng.w .i64 (zbf .and .i64 (Rng.w .i64 ((zad n).val+t.val)).val 3)).val==0)=c0
 generalize ((Rng.w .i64 (zbf .and .i64 (Rng.w .i64 ((zad n).val+t.val)).val 3)).val==1)=c1
 generalize ((Rng.w .i64 (zbf .and .i64 (Rng.w .i64 ((zad n).val+t.val)).val 3)).val==2)=c2
 cases c0<;>cases c1<;>cases c2<;>exact m _
theorem quarter_all {n:I64} (h: -1099511627776<=n.val/\n.val<=1099511627776):(zad n).val=(n.val+3373259426)/6746518852:=by
 have ha:zaQ n=true:=by simp only [zaQ,zc2,Tr.get,zfi];simpa using h
 have hb:=h
 have e1:(Rng.w .i64 (n.val+3373259426)).val=n.val+3373259426:=wi (by omega) (by omega)
 have hs:Int.sign 6746518852=1:=rfl
 have ht:=Int.tdiv_eq_ediv (a:=n.val+3373259426) (b:=6746518852)
 have q1:(Rng.w .i64 ((n.val+3373259426).tdiv 6746518852)).val=(n.val+3373259426).tdiv 6746518852:=by
  refine wi ?_ ?_<;>(split at ht<;>omega)
 have hm:=Int.mul_tdiv_add_tmod (n.val+3373259426) 6746518852
 have m1:(Rng.w .i64 ((n.val+3373259426).tmod 6746518852)).val=(n.val+3373259426).tmod 6746518852:=by
  refine wi ?_ ?_<;>(split at ht<;>omega)
 have z:((6746518852:Int)==0)=false:=rfl
 simp only [zad,zda,Tr.get,ha,Bool.not_true,cfl,G_spec_l06Floor,F_spec_l06Floor,zew,Tr.opt,Tr.get,e1,q1,m1,z]
 by_cases hc:(n.val+3373259426).tmod 6746518852<0
 ·have w1:(Rng.w .i64 ((n.val+3373259426).tdiv 6746518852-1)).val=(n.val+3373259426).tdiv 6746518852-1:=by
   refine wi ?_ ?_<;>(split at ht<;>omega)
  simp only [hc,decide_true,ctr,Option.isSome_some,w1]
  split at ht<;>omega
 ·simp only [hc,decide_false,cfl,ctr,Option.isSome_some,q1]
  split at ht<;>omega
theorem overlap_of {a b:Iv} (ha:zh a=true) (hb:zh b=true) (h1:a.lo.val<=b.hi.val) (h2:b.lo.val<=a.hi.val):zaV a b=true:=by
 have oa:=(zca _).1 ha
 have ob:=(zca _).1 hb
 have m1:=zfR a.lo b.lo
 have m2:=min_l a.hi b.hi
 have hn:¬(zt a.lo b.lo).val>(zz a.hi b.hi).val:=by omega
 simp only [zaV,zdF,zcz,zdR,Tr.get,ha,hb,Bool.not_true,cfl,hn,decide_false]
theorem keepF_mem (x:Iv) (k':I64) (h1:k'.val<=(k1 x).val) (h2:zaV (zR k') x=true) (h3:(k1 x).val<=1000):
  ∀(n:Nat) (k:I64),-1000<=k.val->k.val<=k'.val->k'.val-k.val<n->k'∈keepF x n k:=by
 intro n
 induction n with
 | zero=>intro k _ _ h;omega
 | succ n ih=>
  intro k hl hk hn
  have hd:decide (k.val<=(k1 x).val)=true:=by simp;omega
  have en:(Rng.w .i64 (k.val+1)).val=k.val+1:=wi (by omega) (by omega)
  simp only [keepF,hd,ctr,overlap_eq,turnI_eq]
  by_cases e:k.val=k'.val
  ·have e':k=k':=Rng.ext e
   subst e'
   simp only [h2,ctr]
   exact List.mem_cons_self ..
  ·have:=ih (.w .i64 (k.val+1)) (by omega) (by omega) (by omega)
   cases zaV (zR k) x
   ·exact this
   ·exact List.mem_cons_of_mem _ this
theorem one_val:zh (zF ⟨1,rfl⟩)=true/\(zF ⟨1,rfl⟩).lo.val=4294967296/\(zF ⟨1,rfl⟩).hi.val=4294967296:=int_ok (n:=⟨1,rfl⟩) (by decide)
theorem mone_val:zh (zF ⟨-1,rfl⟩)=true/\(zF ⟨-1,rfl⟩).lo.val= -4294967296/\(zF ⟨-1,rfl⟩).hi.val= -4294967296:=int_ok (n:=⟨-1,rfl⟩) (by decide)
theorem hullF_in (t:I64):∀(L:List I64) (o:Iv),zh o=true->zh (hullF t L o)=true/\(hullF t L o).lo.val<=o.lo.val/\o.hi.val<=(hullF t L o).hi.val /\
  (∀k∈L,(turn4 t k).val=1->4294967296<=(hullF t L o).hi.val)/\(∀k∈L,(turn4 t k).val=3->(hullF t L o).lo.val <= -4294967296):=by
 intro L
 induction L with
 | nil=>intro o ho;exact ⟨ho,Int.le_refl _,Int.le_refl _,(fun k h=>by cases h),(fun k h=>by cases h)⟩
 | cons k L ih=>
  intro o ho
  simp only [hullF,hull_eq,integer_eq]
  by_cases c1:(turn4 t k).val=1
  ·have e1:((turn4 t k).val==1)=true:=by simp [c1]
   simp only [e1,ctr]
   have hv:=hull_in ho one_val.1
   obtain ⟨i1,i2,i3,i4,i5⟩:=ih _ hv.1
   have o1:=one_val.2.2
   refine ⟨i1,by omega,by omega,fun j hj h=>?_,fun j hj h=>?_⟩
   ·rcases List.mem_cons.1 hj with rfl|hj
    ·omega
    ·exact i4 j hj h
   ·rcases List.mem_cons.1 hj with rfl|hj
    ·omega
    ·exact i5 j hj h
  ·have e1:((turn4 t k).val==1)=false:=by simp [c1]
   simp only [e1,cfl]
   by_cases c3:(turn4 t k).val=3
   ·have e3:((turn4 t k).val==3)=true:=by simp [c3]
    simp only [e3,ctr]
    have hv:=hull_in ho mone_val.1
    obtain ⟨i1,i2,i3,i4,i5⟩:=ih _ hv.1
    have o1:=mone_val.2.1
    refine ⟨i1,by omega,by omega,fun j hj h=>?_,fun j hj h=>?_⟩
    ·rcases List.mem_cons.1 hj with rfl|hj
     ·omega
     ·exact i4 j hj h
    ·rcases List.mem_cons.1 hj with rfl|hj
     ·omega
     ·exact i5 j hj h
   ·have e3:((turn4 t k).val==3)=false:=by simp [c3]
    simp only [e3,cfl]
    obtain ⟨i1,i2,i3,i4,i5⟩:=ih _ ho
    refine ⟨i1,by omega,by omega,fun j hj h=>?_,fun j hj h=>?_⟩
    ·rcases List.mem_cons.1 hj with rfl|hj
     ·omega
     ·exact i4 j hj h
    ·rcases List.mem_cons.1 hj with rfl|hj
     ·omega
     ·exact i5 j hj h
theorem qt_ge {k a:Int} (h:fx a<=qt k):(0<=k/\a*1073741824<=k*7244019458077122843)\/(k<0/\a*1073741824<=k*7244019458077122842):=by
 have p1:=hp_lo
 have p2:=hp_hi
 by_cases hk:0<=k
 ·left;refine ⟨hk,zi_le.1 ?_⟩
  have z0:=zi_nn hk
  rw [zfp,zfp,show zi 1073741824=rat 1073741824 from rfl,show zi 7244019458077122843=rat 7244019458077122843 from rfl]
  unfold fx qt at h
  generalize zi k=z at *;generalize zi a=u at *;generalize hp=p at *
  exact zY [u,z,p] (pn (kn 4611686018427387904 (sn h)) (kn 4611686018427387904 (mn z0 (sn p2))))
 ·right;refine ⟨by omega,zi_le.1 ?_⟩
  have z0:=zi_le.2 (show k<=0 by omega)
  rw [zi_0] at z0
  rw [zfp,zfp,show zi 1073741824=rat 1073741824 from rfl,show zi 7244019458077122842=rat 7244019458077122842 from rfl]
  unfold fx qt at h
  generalize zi k=z at *;generalize zi a=u at *;generalize hp=p at *
  exact zY [u,z,p] (pn (kn 4611686018427387904 (sn h)) (kn 4611686018427387904 (mn (neg_nn z0) (sn p1))))
theorem qt_le {k b:Int} (h:qt k<=fx b):(0<=k/\k*7244019458077122842<=b*1073741824)\/(k<0/\k*7244019458077122843<=b*1073741824):=by
 have e:fx (-b)<=qt (-k):=by rw [zfx,qt_neg];generalize fx b=u at *;generalize qt k=v at *;exact zY [u,v] (sn h)
 have:=qt_ge e
 omega
theorem In.over06 {x:Re} {a:Iv} (h:In x a) {t:I64} (ht:0<=t.val/\t.val<=3):In (sin (x+qt t.val)) (zek a t):=by
 have hs:=sin_in (x+qt t.val)
 rw [<- over_eq]
 unfold zaS
 rw [fits_eq,ring_eq]
 cases hf:zcQ a
 ·exact In.ring hs.1 hs.2
 simp only [Bool.not_true,cfl]
 have hfit:zh a=true/\(-1099511627776<=a.lo.val/\a.lo.val<=1099511627776)/\(-1099511627776<=a.hi.val/\a.hi.val<=1099511627776):=by
  simp only [zcQ,zfs,Tr.get,zaU,zdA,zaQ,zc2,zfi] at hf
  revert hf
  cases zh a<;>by_cases c1: -1099511627776<=a.lo.val/\a.lo.val<=1099511627776<;>by_cases c2: -1099511627776<=a.hi.val/\a.hi.val<=1099511627776<;>simp [c1,c2,ctr,cfl]
 obtain ⟨oa,⟨l1,l2⟩,⟨u1,u2⟩⟩:=hfit
 obtain ⟨h1,h2⟩:=h oa
 have ho:o0 a t=zS (zbv a.lo t) (zbv a.hi t):=by unfold o0;rw [hull_eq,circle_eq,circle_eq]
 have v1:=at_in a.lo t
 have v2:=at_in a.hi t
 have hv:=hull_in v1.1 v2.1
 rw [ho]
 obtain ⟨i1,i2,i3,i4,i5⟩:=hullF_in t (keepF a 1000 (k0 a)) _ hv.1
 have a1:=In.at (n:=a.lo) ht v1.1
 have a2:=In.at (n:=a.hi) ht v2.1
 have kb:=k_bd a
 have q0:(k0 a).val=(a.lo.val+3373259426)/6746518852-1:=by
  have qb:=quarter_bd a.lo
  unfold k0;rw [quarter_eq,wi (by omega) (by omega),quarter_all ⟨l1,l2⟩]
 have q1:(k1 a).val=(a.hi.val+3373259426)/6746518852+1:=by
  have qb:=quarter_bd a.hi
  unfold k1;rw [quarter_eq,wi (by omega) (by omega),quarter_all ⟨u1,u2⟩]
 have mem:∀j:Int,fx a.lo.val<=qt j->qt j<=fx a.hi.val->∃k:I64,k.val=j/\k∈keepF a 1000 (k0 a)/\(turn4 t k).val=(j+t.val)%4:=fun j j1 j2=>by
  have g1:=qt_ge j1
  have g2:=qt_le j2
  have jb: -200<=j/\j<=200:=by omega
  have ek:(Rng.w .i64 j).val=j:=wi (by omega) (by omega)
  refine ⟨.w .i64 j,ek,?_,?_⟩
  ·obtain ⟨t1,t2,t3⟩:=In.turn (k:= .w .i64 j) (by omega) (by omega)
   rw [ek] at t2 t3
   refine keepF_mem a _ (by omega) (overlap_of t1 oa (zfy.1 (le_trans t2 j2)) (zfy.1 (le_trans j1 t3))) (by omega) 1000 (k0 a) (by omega) (by omega) (by omega)
  ·unfold turn4;rw [ek];exact and4_eq (by omega) (by omega)
 intro _
 have mv:∀ {p q:Re},p<=q->∀j:Int,p+qt t.val<=qt j->p<=qt (j-t.val):=fun {p q} _ j hj=>by
  have e:=qt_add (j-t.val) t.val
  rw [show j-t.val+t.val=j by omega] at e
  rw [e] at hj
  generalize qt (j-t.val)=u at *;generalize qt t.val=v at *
  exact zY [p,u,v] (sn hj)
 have mv':∀ {p:Re},∀j:Int,qt j<=p+qt t.val->qt (j-t.val)<=p:=fun {p} j hj=>by
  have e:=qt_add (j-t.val) t.val
  rw [show j-t.val+t.val=j by omega] at e
  rw [e] at hj
  generalize qt (j-t.val)=u at *;generalize qt t.val=v at *
  exact zY [p,u,v] (sn hj)
 constructor
 ·rcases sin_bottom (zfg h1 (le_refl (qt t.val))) (zfg h2 (le_refl (qt t.val))) with c|c|⟨j,j4,j1,j2⟩
  ·exact le_trans (le_trans (zfy.2 (Int.le_trans i2 hv.2.1)) a1.1) c
  ·exact le_trans (le_trans (zfy.2 (Int.le_trans i2 hv.2.2.1)) a2.1) c
  ·obtain ⟨k,k1',k2,k3⟩:=mem (j-t.val) (mv (le_refl (fx a.lo.val)) j j1) (mv' j j2)
   have:=i5 k k2 (by omega)
   refine le_trans ?_ hs.1
   rw [<- fx_m1];exact zfy.2 this
 ·rcases sin_top (zfg h1 (le_refl (qt t.val))) (zfg h2 (le_refl (qt t.val))) with c|c|⟨j,j4,j1,j2⟩
  ·exact le_trans c (le_trans a1.2 (zfy.2 (Int.le_trans hv.2.2.2.1 i3)))
  ·exact le_trans c (le_trans a2.2 (zfy.2 (Int.le_trans hv.2.2.2.2.1 i3)))
  ·obtain ⟨k,k1',k2,k3⟩:=mem (j-t.val) (mv (le_refl (fx a.lo.val)) j j1) (mv' j j2)
   have:=i4 k k2 (by omega)
   refine le_trans hs.2 ?_
   rw [<- fx_1];exact zfy.2 this
theorem In.sin {x:Re} {a:Iv} (h:In x a):In (An.sin x) (zbz a):=by
 have:=h.over06 (t:=⟨0,rfl⟩) (by decide)
 rw [show ((⟨0,rfl⟩:I64).val)=0 from rfl,qt_0,An.add_zero] at this
 simp only [zbz,t_spec_SinI,Tr.get]
 exact this
theorem In.cos {x:Re} {a:Iv} (h:In x a):In (An.cos x) (zbb a):=by
 have:=h.over06 (t:=⟨1,rfl⟩) (by decide)
 rw [show ((⟨1,rfl⟩:I64).val)=1 from rfl,sin_q1 x (by decide)] at this
 simp only [zbb,t_spec_CosI,Tr.get]
 exact this
end Go.Proofs.YtfcjhkkpbnobhaaGreat.Nc
namespace Go.Proofs.YtfcjhkkpbnobhaaGreat.Nc
open Go Go.Proofs.YtfcjhkkpbnobhaaGreat.An
open Go.Proofs.YtfcjhkkpbnobhaaGreat.Ev hiding mn mul_bd neg_eq sq_lt sub_eq
theorem divdown_neg {x y:I64} (hy:y.val<0) (h:(zC x y).b=true):(zC x y).a.val= -x.val*4294967296 / -y.val:=by
 have z0:(y.val==0)=false:=by simp;omega
 have z1:decide (y.val<0)=true:=by simpa using hy
 simp only [zC,zbq,Tr.get,zd9,z0,z1,ctr,cfl] at h ⊢
 cases h1:zD x
 ·rw [h1] at h;simp [ctr] at h
 cases h2:zD y
 ·rw [h1,h2] at h;simp [ctr,cfl] at h
 have bx:=ok_bd h1
 have by':=ok_bd h2
 have ex:(Rng.w .i64 (0-x.val)).val= -x.val:=by rw [wi (by omega) (by omega)];omega
 have ey:(Rng.w .i64 (0-y.val)).val= -y.val:=by rw [wi (by omega) (by omega)];omega
 rw [h1,h2] at h
 have hp:0 < -y.val:=by omega
 simp only [Bool.not_true,cfl,MD,ex,ey,hp,if_true] at h ⊢
 unfold narrow at h ⊢
 split at h
 ·rename_i hr
  rw [if_pos hr]
  rcases end_cases (.w .i64 (-x.val*4294967296 / -y.val)) true with e|⟨e,_⟩
  ·rw [e] at h;cases h
  ·rw [e];exact wi hr.1 hr.2
 ·have:(zak (.w .i64 0) false).b=false:=by simp only [zak,zb0,Tr.get,Bool.not_false,ctr]
  rw [this] at h;cases h
theorem divup_neg {x y:I64} (hy:y.val<0) (h:(zW x y).b=true):(zW x y).a.val= -(x.val*4294967296 / -y.val):=by
 simp only [zW,zct,Tr.get] at h ⊢
 cases h1:zD x
 ·rw [h1] at h;simp [ctr] at h
 rw [h1] at h
 simp only [Bool.not_true,cfl] at h ⊢
 have hb:=ok_bd h1
 have e:=divdown_neg hy h
 have en:(Rng.w .i64 (0-x.val)).val= -x.val:=by rw [wi (by omega) (by omega)];omega
 rw [en,Int.neg_neg] at e
 rcases zdZ (.w .i64 (0-x.val)) y with k|⟨c,k,kc⟩
 ·rw [k] at h;cases h
 ·have kb:=ok_bd kc
  rw [k] at e ⊢
  simp only at e ⊢
  rw [wi (by omega) (by omega)]
  omega
theorem divI_corner_neg {a b:Iv} (h0:b.hi.val<0) (h:zh (zB a b)=true):zh a=true/\zh b=true /\
  ∀x y:I64,(x=a.lo\/x=a.hi)->(y=b.lo\/y=b.hi)->(zB a b).lo.val <= -x.val*4294967296 / -y.val /\ -(x.val*4294967296 / -y.val)<=(zB a b).hi.val:=by
 have nw:∀ {P:Prop},zh zu=true->P:=fun h=>by rw [zbX] at h;cases h
 simp only [zB,zeB,Tr.get] at h ⊢
 cases ha:zh a
 ·rw [ha] at h;exact nw h
 cases hb:zh b
 ·rw [ha,hb] at h;exact nw h
 have bb:=(zca _).1 hb
 have h0':b.lo.val<0:=by omega
 cases hz:zaC b ⟨0,rfl⟩
 case true=>rw [ha,hb,hz] at h;exact nw h
 simp only [ha,hb,hz,Bool.not_true,cfl] at h ⊢
 cases h1:(zC a.lo b.lo).b
 ·rw [h1] at h;exact nw h
 cases h2:(zW a.lo b.lo).b
 ·rw [h1,h2] at h;exact nw h
 cases h3:(zC a.lo b.hi).b
 ·rw [h1,h2,h3] at h;exact nw h
 cases h4:(zW a.lo b.hi).b
 ·rw [h1,h2,h3,h4] at h;exact nw h
 cases h5:(zC a.hi b.lo).b
 ·rw [h1,h2,h3,h4,h5] at h;exact nw h
 cases h6:(zW a.hi b.lo).b
 ·rw [h1,h2,h3,h4,h5,h6] at h;exact nw h
 cases h7:(zC a.hi b.hi).b
 ·rw [h1,h2,h3,h4,h5,h6,h7] at h;exact nw h
 cases h8:(zW a.hi b.hi).b
 ·rw [h1,h2,h3,h4,h5,h6,h7,h8] at h;exact nw h
 simp only [h1,h2,h3,h4,h5,h6,h7,h8,Bool.not_true,cfl] at h ⊢
 refine ⟨trivial,trivial,?_⟩
 have v1:=divdown_neg h0' h1
 have v2:=divup_neg h0' h2
 have v3:=divdown_neg h0 h3
 have v4:=divup_neg h0 h4
 have v5:=divdown_neg h0' h5
 have v6:=divup_neg h0' h6
 have v7:=divdown_neg h0 h7
 have v8:=divup_neg h0 h8
 generalize (zC a.lo b.lo).a=d1 at *
 generalize (zC a.lo b.hi).a=d2 at *
 generalize (zC a.hi b.lo).a=d3 at *
 generalize (zC a.hi b.hi).a=d4 at *
 generalize (zW a.lo b.lo).a=u1 at *
 generalize (zW a.lo b.hi).a=u2 at *
 generalize (zW a.hi b.lo).a=u3 at *
 generalize (zW a.hi b.hi).a=u4 at *
 have m1:=min_l ⟨1152921504606846976,rfl⟩ d1
 have m2:=min_l (zz ⟨1152921504606846976,rfl⟩ d1) d2
 have m3:=min_l (zz (zz ⟨1152921504606846976,rfl⟩ d1) d2) d3
 have m4:=min_l (zz (zz (zz ⟨1152921504606846976,rfl⟩ d1) d2) d3) d4
 have n1:=zfR ⟨-1152921504606846976,rfl⟩ u1
 have n2:=zfR (zt ⟨-1152921504606846976,rfl⟩ u1) u2
 have n3:=zfR (zt (zt ⟨-1152921504606846976,rfl⟩ u1) u2) u3
 have n4:=zfR (zt (zt (zt ⟨-1152921504606846976,rfl⟩ u1) u2) u3) u4
 generalize zz (zz (zz (zz ⟨1152921504606846976,rfl⟩ d1) d2) d3) d4=lo at *
 generalize zt (zt (zt (zt ⟨-1152921504606846976,rfl⟩ u1) u2) u3) u4=hi at *
 by_cases hm: -1152921504606846976<lo.val/\lo.val<=hi.val/\hi.val<1152921504606846976
 ·rw [zc7 hm]
  simp only
  rintro x y (rfl|rfl) (rfl|rfl)
  ·omega
  ·omega
  ·omega
  ·omega
 ·rw [make_no hm] at h;exact nw h
theorem divI_two {a b:Iv} (h:zh (zB a b)=true):0<b.lo.val\/b.hi.val<0:=by
 have nw:∀ {P:Prop},zh zu=true->P:=fun h=>by rw [zbX] at h;cases h
 simp only [zB,zeB,Tr.get] at h
 cases ha:zh a
 ·rw [ha] at h;exact nw h
 cases hb:zh b
 ·rw [ha,hb] at h;exact nw h
 have ob:=(zca _).1 hb
 have hz:zaC b ⟨0,rfl⟩=decide (b.lo.val<=0/\0<=b.hi.val):=by simp only [zaC,zbZ,Tr.get,zfi]
 by_cases hd:b.lo.val<=0/\0<=b.hi.val
 ·rw [ha,hb,hz,decide_eq_true hd] at h;exact nw h
 ·omega
theorem In.div {x y:Re} {a b:Iv} (h:In x a) (k:In y b):In (x/y) (zB a b):=fun ok=>by
 rcases divI_two ok with h0|h0
 ·exact h.div_pos k h0 ok
 obtain ⟨o1,o2,hc⟩:=divI_corner_neg h0 ok
 obtain ⟨h1,h2⟩:=h o1
 obtain ⟨k1,k2⟩:=k o2
 have b':=(zca _).1 o2
 have y0:=lt_of_le_of_lt k2 (fx_neg' h0)
 have n1: -x<=fx (-a.lo.val):=by rw [zfx];generalize fx a.lo.val=u at *;exact zY [x,u] (sn h1)
 have n2:fx (-a.hi.val) <= -x:=by rw [zfx];generalize fx a.hi.val=u at *;exact zY [x,u] (sn h2)
 have m1: -y<=fx (-b.lo.val):=by rw [zfx];generalize fx b.lo.val=u at *;exact zY [y,u] (sn k1)
 have m2:fx (-b.hi.val) <= -y:=by rw [zfx];generalize fx b.hi.val=u at *;exact zY [y,u] (sn k2)
 have i1:=inv_le (neg_ne y0) m1
 have i2:=inv_le (fx_p (show 0 < -b.hi.val by omega)) m2
 have p0:∀v:I64,(v=b.lo\/v=b.hi)->0 < -v.val:=by rintro v (rfl|rfl)<;>omega
 have lo:∀u v:I64,(u=a.lo\/u=a.hi)->(v=b.lo\/v=b.hi)->fx (zB a b).lo.val<=fx (-u.val)*(fx (-v.val))⁻¹:=fun u v hu hv=>le_trans (zfy.2 (hc u v hu hv).1) (fx_div_lo (p0 v hv))
 have hi:∀u v:I64,(u=a.lo\/u=a.hi)->(v=b.lo\/v=b.hi)->fx (-u.val)*(fx (-v.val))⁻¹<=fx (zB a b).hi.val:=fun u v hu hv=>by
  have:=fx_div_hi (x:= -u.val) (p0 v hv)
  rw [Int.neg_neg] at this
  exact le_trans this (zfy.2 (hc u v hu hv).2)
 rw [<- div_neg x y (ne_of_lt y0)]
 exact ⟨real_lo n2 n1 i1 i2 (lo _ _ (.inr rfl) (.inl rfl)) (lo _ _ (.inr rfl) (.inr rfl)) (lo _ _ (.inl rfl) (.inl rfl)) (lo _ _ (.inl rfl) (.inr rfl)),
  real_hi n2 n1 i1 i2 (hi _ _ (.inr rfl) (.inl rfl)) (hi _ _ (.inr rfl) (.inr rfl)) (hi _ _ (.inl rfl) (.inl rfl)) (hi _ _ (.inl rfl) (.inr rfl))⟩
theorem narrow_b {v:Int} (h:(narrow v).b=true):(narrow v).a.val=v /\ -9223372036854775808<=v/\v<=9223372036854775807:=by
 unfold narrow at h ⊢
 split at h
 ·rename_i hr;rw [if_pos hr];exact ⟨wi hr.1 hr.2,hr⟩
 ·cases h
theorem quo_lo' {a b:Int} (hb:0<b):fx (a*4294967296/b)<=zi a/zi b:=by
 have zb:0<zi b:=by rw [<- zi_0];exact zi_lt.2 hb
 rw [le_div zb]
 have:=fx_floor (p:=a*4294967296) hb
 unfold fx
 rw [zfp a] at this
 generalize zi (a*4294967296/b)=q at *;generalize zi a=u at *;generalize zi b=v at *
 rw [show zi 4294967296=rat 4294967296 from rfl] at this
 exact zY [q,u,v] (kn (1/4294967296) (sn this))
theorem quo_hi' {a b:Int} (hb:0<b):zi a/zi b<=fx (a*4294967296/b+1):=by
 have zb:0<zi b:=by rw [<- zi_0];exact zi_lt.2 hb
 rw [div_le zb]
 have h1:a*4294967296<=(a*4294967296/b+1)*b:=by have:=Int.lt_ediv_add_one_mul_self (a*4294967296) hb;omega
 have:=zi_le.2 h1
 unfold fx
 rw [zfp a,zfp _ b] at this
 generalize zi (a*4294967296/b+1)=q at *;generalize zi a=u at *;generalize zi b=v at *
 rw [show zi 4294967296=rat 4294967296 from rfl] at this
 exact zY [q,u,v] (kn (1/4294967296) (sn this))
theorem quo_eq' {a b:Int} (hb:0<b) (h:a*4294967296%b=0):zi a/zi b<=fx (a*4294967296/b):=by
 have zb:0<zi b:=by rw [<- zi_0];exact zi_lt.2 hb
 rw [div_le zb]
 have h1:a*4294967296<=(a*4294967296/b)*b:=by
  have:=Int.mul_ediv_add_emod (a*4294967296) b
  rw [h,Int.mul_comm] at this;omega
 have:=zi_le.2 h1
 unfold fx
 rw [zfp a,zfp _ b] at this
 generalize zi (a*4294967296/b)=q at *;generalize zi a=u at *;generalize zi b=v at *
 rw [show zi 4294967296=rat 4294967296 from rfl] at this
 exact zY [q,u,v] (kn (1/4294967296) (sn this))
theorem end_b {a:I64} {c:Bool} (h:(zak a c).b=true):c=true/\zak a c=⟨a,true⟩/\zD a=true:=by
 rcases end_cases a c with e|⟨e,k⟩
 ·rw [e] at h;cases h
 ·refine ⟨?_,e,k⟩
  cases c
  ·rw [end_no] at e;cases e
  ·rfl
theorem In.quotient {a b:I64} (hb:0<b.val):In (zi a.val/zi b.val) (zba a b):=by
 rw [q_F_spec]
 have hn:¬b.val<0:=by omega
 unfold QQ
 rw [if_neg hn]
 unfold QU
 cases h1:(FF a b).b
 ·exact In.whole _
 cases h2:(FC a b).b
 ·exact In.whole _
 simp only [cond_true]
 have f1:fx (FF a b).a.val<=zi a.val/zi b.val:=by
  unfold FF at h1 ⊢
  obtain ⟨e1,e2,e3⟩:=end_b h1
  rw [e2]
  simp only [MD,hb,if_true] at e1 ⊢
  have:=narrow_b e1
  rw [this.1]
  exact quo_lo' hb
 have f2:zi a.val/zi b.val<=fx (FC a b).a.val:=by
  unfold FC at h2 ⊢
  simp only [hb,if_true] at h2 ⊢
  cases hq:(narrow (a.val*4294967296/b.val)).b
  ·rw [hq] at h2;simp at h2
  have nb:=narrow_b hq
  simp only [hq,if_true] at h2 ⊢
  by_cases hz:a.val*4294967296%b.val=0
  ·simp only [hz,if_true] at h2 ⊢
   obtain ⟨e1,e2,e3⟩:=end_b h2
   rw [e2,nb.1]
   exact quo_eq' hb hz
  ·simp only [hz,if_false] at h2 ⊢
   obtain ⟨e1,e2,e3⟩:=end_b h2
   rw [e2]
   have ob:=ok_bd e3
   rw [nb.1] at ob ⊢
   by_cases hx:a.val*4294967296/b.val=9223372036854775807
   ·rw [hx] at ob;exact absurd ob (by decide)
   ·rw [wi (by omega) (by omega)]
    exact quo_hi' hb
 intro ok
 by_cases hm: -1152921504606846976<(FF a b).a.val/\(FF a b).a.val<=(FC a b).a.val/\(FC a b).a.val<1152921504606846976
 ·rw [zc7 hm];exact ⟨f1,f2⟩
 ·rw [make_no hm,zbX] at ok;cases ok
theorem In.quot {n:I64} (q:Nat) (r:Rat) (hn:n.val=((q+1:Nat):Int):=by kernel_rfl) (hr:1/((q+1:Nat):Rat)=r:=by kernel_rfl):In (rat r) (zba ⟨1,rfl⟩ n):=by
 have:=In.quotient (a:=⟨1,rfl⟩) (b:=n) (by omega)
 rw [hn,zi_nat,show zi ((⟨1,rfl⟩:I64)).val=1 from rfl] at this
 have e:(1:Re)/rat ((q+1:Nat):Rat)=rat r:=by
  rw [<- hr]
  have i:=inv_nat q
  have p:0<rat ((q+1:Nat):Rat):=nat_p (Nat.succ_pos q)
  refine eq_of_mul (ne_of_gt p) ?_
  rw [div_mul (ne_of_gt p),An.mul_comm,i]
 rwa [e] at this
theorem In.halve {x:Re} {a:Iv} (h:In x a):In (x/(1+An.sqrt (1+x*x))) (zdL a):=by
 simp only [zdL,t_spec_l07Halve,Tr.get]
 exact h.div (In.add In.one (In.sqrt (In.add In.one h.sqr)))
theorem In.arcS {x:Re} {a:Iv} (h:In x a):In (atan x) (zec a):=by
 simp only [zec,t_spec_ArcSeries,Tr.get,zcu]
 cases hi:zaP a ⟨⟨(-1073741824),rfl⟩,⟨1073741824,rfl⟩⟩
 ·exact In.whole _
 simp only [Bool.not_true,cfl]
 have hin:zh a=true /\ -1073741824<=a.lo.val/\a.hi.val<=1073741824:=by
  have h2:zh ⟨⟨-1073741824,rfl⟩,⟨1073741824,rfl⟩⟩=true:=(zca _).2 (by decide)
  simp only [zaP,zdq,Tr.get,h2,Bool.not_true,cfl] at hi
  revert hi
  cases zh a<;>by_cases h1: -1073741824<=a.lo.val<;>simp [h1,ctr,cfl]
 obtain ⟨o,k1,k2⟩:=hin
 have hx:An.abs x<=rat (1/4):=by
  obtain ⟨h1,h2⟩:=h o
  have l1:=zfy.2 k1
  have l2:=zfy.2 k2
  have e:fx 1073741824=rat (1/4):=(show rat ((1073741824:Int):Rat)*rat (1/4294967296)=rat (1/4) from An.ring [])
  rw [zfx,e] at l1
  rw [e] at l2
  exact abs_le (le_trans l1 h1) (le_trans h2 l2)
 have e:=atan_horner hx
 have:=(h.mul (In.sub (In.quot (n:=⟨1,rfl⟩) 0 (1/1)) (In.mul h.sqr (In.sub (In.quot (n:=⟨3,rfl⟩) 2 (1/3)) (In.mul h.sqr (In.sub (In.quot (n:=⟨5,rfl⟩) 4 (1/5)) (In.mul h.sqr (In.sub (In.quot (n:=⟨7,rfl⟩) 6 (1/7)) (In.mul h.sqr (In.sub (In.quot (n:=⟨9,rfl⟩) 8 (1/9)) (In.mul h.sqr (In.sub (In.quot (n:=⟨11,rfl⟩) 10 (1/11)) (In.mul h.sqr (In.sub (In.quot (n:=⟨13,rfl⟩) 12 (1/13)) (In.mul h.sqr (In.sub (In.quot (n:=⟨15,rfl⟩) 14 (1/15)) (In.mul h.sqr (In.sub (In.quot (n:=⟨17,rfl⟩) 16 (1/17)) (In.mul h.sqr (In.sub (In.quot (n:=⟨19,rfl⟩) 18 (1/19)) (In.mul h.sqr (In.quot (n:=⟨21,rfl⟩) 20 (1/21))))))))))))))))))))))).add (In.tiny e)
 generalize x*(rat (1/1)-x*x*(rat (1/3)-x*x*(rat (1/5)-x*x*(rat (1/7)-x*x*(rat (1/9)-x*x*(rat (1/11)-x*x*(rat (1/13)-x*x*(rat (1/15)-x*x*(rat (1/17)-x*x*(rat (1/19)-x*x*rat (1/21)))))))))))=u at *;generalize atan x=s at *
 rwa [show u+(s-u)=s from An.ring [u,s]] at this
theorem In.core {x:Re} {a:Iv} (h:In x a):In (atan x) (zcp a):=by
 simp only [zcp,t_spec_l07Core,Tr.get]
 have:=h.halve.halve.arcS.dbl.dbl
 rwa [<- atan_half,<- atan_half] at this
theorem atan_inv {x:Re} (h:0<x):atan x=hp-atan (1/x):=by
 have c:=atan_cos (1/x)
 have hq:0<1/x:=div_p (qp 1) h
 have p0:0<atan (1/x):=by
  have h2:=zfA (le_of_lt hq)
  rw [atan_zero] at h2
  rcases le_iff.1 h2 with h3|h3
  ·exact h3
  ·have:=atan_sc (1/x)
   rw [<- h3,sin_zero,cos_zero,An.mul_one] at this
   exact absurd (this▸hq) (lt_irrefl _)
 have p1:=zfj (1/x)
 refine (atan_unique ?_ ?_ ?_).symm
 ·generalize atan (1/x)=a at *;exact zdK [a,hp] (ppn (sp p1) (le_of_lt hp_p))
 ·generalize atan (1/x)=a at *;exact zdK [a,hp] p0
 ·rw [sin_hp_sub,cos_hp_sub,atan_sc]
  have e:=div_mul (x:=1) (ne_of_gt h)
  generalize cos (atan (1/x))=d at *;generalize 1/x=q at *
  exact eq_by [x,q,d] (congrArg (fun t=> -(d*t)) e: -(d*(q*x))= -(d*1))
theorem quarter_val1:zbj.lo.val= -6746518853/\zbj.hi.val=6746518853/\zh zbj=true:=by
 have e:zbj=⟨⟨-6746518853,rfl⟩,⟨6746518853,rfl⟩⟩:=by kernel_rfl
 rw [e];exact ⟨rfl,rfl,(zca _).2 (by decide)⟩
theorem hp_fx:hp<=fx 6746518853:=by
 have:=(turn_real (k:=1) (by decide) (by decide)).2
 rw [qt_1] at this
 exact this
theorem In.quarter {x:Re} (h1: -hp<=x) (h2:x<=hp):In x zbj:=fun _=>by
 rw [quarter_val1.1,quarter_val1.2.1,zfx]
 have:=hp_fx
 generalize fx 6746518853=u at *
 exact ⟨zY [x,u,hp] (pn (sn this) (sn h1)),le_trans h2 this⟩
theorem atan_bd (x:Re): -hp<=atan x/\atan x<=hp:=⟨le_of_lt (zfk x),le_of_lt (zfj x)⟩
theorem In.atan_pos {n:I64} (h:0<=n.val):In (atan (fx n.val)) (zcN n)/\In (atan (fx n.val)) (zc5 n)/\zeL n=true:=by
 have hn:decide (n.val<0)=false:=by simp;omega
 have q:=In.quarter (atan_bd (fx n.val)).1 (atan_bd (fx n.val)).2
 simp only [zcN,t_spec_AtanAt,zc5,zeC,zeL,Tr.get,Tr.opt,hn,cfl]
 cases zbo n
 ·exact ⟨q,q,rfl⟩
 simp only [Bool.not_true,cfl]
 by_cases hg:n.val>4294967296
 ·simp only [hg,decide_true,ctr]
  have:In (atan (fx n.val)) (zZ (zR ⟨1,rfl⟩) (zcp (zB (zF ⟨1,rfl⟩) (zw n)))):=by
   rw [atan_inv (fx_p (show 0<n.val by omega))]
   have t:=In.turn' (k:=⟨1,rfl⟩) (by decide) (by decide)
   rw [show ((⟨1,rfl⟩:I64)).val=1 from rfl,qt_1] at t
   exact t.sub (In.one.div In.point).core
  exact ⟨this,this,rfl⟩
 ·simp only [hg,decide_false,cfl]
  exact ⟨In.point.core,In.point.core,rfl⟩
theorem In.atanAt {n:I64}:In (atan (fx n.val)) (zcN n):=by
 by_cases h:0<=n.val
 ·exact (In.atan_pos h).1
 have hn:decide (n.val<0)=true:=by simp;omega
 have q:=In.quarter (atan_bd (fx n.val)).1 (atan_bd (fx n.val)).2
 simp only [zcN,t_spec_AtanAt,Tr.get,hn,ctr]
 cases hf:zbo n
 ·exact q
 have hb:=(fix_iff n).1 hf
 have en:(Rng.w .i64 (0-n.val)).val= -n.val:=by rw [wi (by omega) (by omega)];omega
 obtain ⟨_,h2,h3⟩:=In.atan_pos (n:= .w .i64 (0-n.val)) (by rw [en];omega)
 rw [en,zfx,atan_neg] at h2
 simp only [Bool.not_true,cfl,h3,ctr]
 have:=h2.neg
 rwa [show - - atan (fx n.val)=atan (fx n.val) from by generalize atan (fx n.val)=u;exact An.ring [u]] at this
theorem In.atan {x:Re} {a:Iv} (h:In x a):In (An.atan x) (zab a):=by
 rw [atanI_spec,siw_eq]
 cases ha:zh a
 ·exact In.quarter (atan_bd x).1 (atan_bd x).2
 simp only [Bool.not_true,cfl]
 obtain ⟨h1,h2⟩:=h ha
 exact In.between (In.atanAt.hull_l) (In.atanAt.hull_r) (zfA h1) (zfA h2)
theorem In.dirAt {y x:I64}:In (dir (fx y.val) (fx x.val)) (zG y x):=by
 rw [<- dirAt_eq]
 simp only [zT,zdl,Tr.get,fix_eq,atanI_eq,divI_F,at_eq,Ev.sub_eq,add_eq,turnI_eq,zck,zcu]
 cases hy:zbo y
 ·exact In.whole _
 cases hx:zbo x
 ·exact In.whole _
 have by':=(fix_iff y).1 hy
 have bx:=(fix_iff x).1 hx
 have ay:=abs_val y (by omega)
 have ax:=abs_val x (by omega)
 have p:∀n:I64,In (fx n.val) (zw n):=fun n=>by simp only [zw,t_spec_l05At,Tr.get];exact In.point
 have t1:=In.turn' (k:=⟨1,rfl⟩) (by decide) (by decide)
 have tm1:=In.turn' (k:=⟨-1,rfl⟩) (by decide) (by decide)
 have t2:=In.turn' (k:=⟨2,rfl⟩) (by decide) (by decide)
 have tm2:=In.turn' (k:=⟨-2,rfl⟩) (by decide) (by decide)
 rw [show ((⟨1,rfl⟩:I64)).val=1 from rfl,qt_1] at t1
 rw [show ((⟨-1,rfl⟩:I64)).val= -1 from rfl,qt_neg,qt_1] at tm1
 rw [show ((⟨2,rfl⟩:I64)).val=2 from rfl,show qt 2=pi from rfl] at t2
 have q2:qt (-2)= -pi:=qt_neg 2
 rw [show ((⟨-2,rfl⟩:I64)).val= -2 from rfl,q2] at tm2
 have key:¬(y.val=0/\x.val=0)->In (dir (fx y.val) (fx x.val)) (bif decide ((zbn y).val>(zbn x).val) then (bif decide (y.val<0) then zZ (zR ⟨-1,rfl⟩) (zab (zB (zw x) (zw y))) else zZ (zR ⟨1,rfl⟩) (zab (zB (zw x) (zw y))))
   else (bif decide (x.val>0) then zab (zB (zw y) (zw x)) else (bif decide (y.val<0) then zaj (zab (zB (zw y) (zw x))) (zR ⟨-2,rfl⟩) else zaj (zab (zB (zw y) (zw x))) (zR ⟨2,rfl⟩)))):=fun hz=>by
  by_cases c:(zbn y).val>(zbn x).val
  ·simp only [c,decide_true,ctr]
   rw [ax,ay] at c
   by_cases n:y.val<0
   ·simp only [n,decide_true,ctr]
    rw [dir_down (fx_neg' n)]
    exact tm1.sub ((p x).div (p y)).atan
   ·simp only [n,decide_false,cfl]
    rw [dir_up (fx_p (show 0<y.val by split at c<;>omega))]
    exact t1.sub ((p x).div (p y)).atan
  ·simp only [c,decide_false,cfl]
   rw [ax,ay] at c
   by_cases px:x.val>0
   ·simp only [px,decide_true,ctr]
    rw [dir_right (fx_p px)]
    exact ((p y).div (p x)).atan
   ·simp only [px,decide_false,cfl]
    have nx:x.val<0:=by split at c<;>split at c<;>omega
    by_cases n:y.val<0
    ·simp only [n,decide_true,ctr]
     rw [dir_left' (fx_neg' nx) (fx_neg' n)]
     exact ((p y).div (p x)).atan.add tm2
    ·simp only [n,decide_false,cfl]
     rw [dir_left (fx_neg' nx) (fx_nn (by omega))]
     exact ((p y).div (p x)).atan.add t2
 simp only [Bool.not_true,cfl]
 by_cases y0:y.val=0
 ·have ey:(y.val==0)=true:=by simp [y0]
  by_cases x0:x.val=0
  ·have ex:(x.val==0)=true:=by simp [x0]
   simp only [ey,ex,ctr];exact In.whole _
  ·have ex:(x.val==0)=false:=by simp [x0]
   simp only [ey,ex,ctr,cfl]
   exact key (by omega)
 ·have ey:(y.val==0)=false:=by simp [y0]
  simp only [ey,cfl]
  exact key (by omega)
theorem In.dir {y x:Re} {b a:Iv} (h:In y b) (k:In x a):In (An.dir y x) (zbt b a):=by
 simp only [zbt,zeV,Tr.get,siw_eq,zcu]
 cases hb:zh b
 ·exact In.whole _
 cases ha:zh a
 ·exact In.whole _
 have ob:=(zca _).1 hb
 have oa:=(zca _).1 ha
 obtain ⟨h1,h2⟩:=h hb
 obtain ⟨k1,k2⟩:=k ha
 have hz:∀c:Iv,zh c=true->zaT c ⟨0,rfl⟩=decide (c.lo.val<=0/\0<=c.hi.val):=fun c hc=>by
  simp only [zaT,t_spec_HasI,zaC,zbZ,Tr.get,zfi,hc,Bool.not_true,cfl]
 simp only [Bool.not_true,cfl,hz b hb,hz a ha]
 have key:¬(b.lo.val<=0/\0<=b.hi.val/\a.lo.val<=0/\0<=a.hi.val)->¬(a.lo.val<0/\b.lo.val<0/\0<=b.hi.val)->
   In (An.dir y x) (zS (zS (zG b.lo a.lo) (zG b.lo a.hi)) (zS (zG b.hi a.lo) (zG b.hi a.hi))):=fun c1 c2=>by
  have cz:∀n:Int,(fx n<=0↔n<=0)/\(0<=fx n↔0<=n)/\(fx n<0↔n<0):=fun n=>by
   have e:=fx_0
   refine ⟨?_,?_,?_⟩<;>rw [<- e]
   ·exact zfy
   ·exact zfy
   ·exact fx_lt
  obtain ⟨_,⟨u,v,hu,hv,e1⟩,⟨u',v',hu',hv',e2⟩⟩:=dir_box k1 k2 h1 h2
   (fun c=>c1 ⟨(cz _).1.1 c.1,(cz _).2.1.1 c.2.1,(cz _).1.1 c.2.2.1,(cz _).2.1.1 c.2.2.2⟩)
   (fun c=>c2 ⟨(cz _).2.2.1 c.1,(cz _).2.2.1 c.2.1,(cz _).2.1.1 c.2.2⟩)
  have mem:∀u v,(u=fx a.lo.val\/u=fx a.hi.val)->(v=fx b.lo.val\/v=fx b.hi.val)->In (An.dir v u) (zS (zS (zG b.lo a.lo) (zG b.lo a.hi)) (zS (zG b.hi a.lo) (zG b.hi a.hi))):=by
   rintro u v (rfl|rfl) (rfl|rfl)
   ·exact In.dirAt.hull_l.hull_l
   ·exact In.dirAt.hull_l.hull_r
   ·exact In.dirAt.hull_r.hull_l
   ·exact In.dirAt.hull_r.hull_r
  exact In.between (mem u' v' hu' hv') (mem u v hu hv) e2 e1
 by_cases b0:b.lo.val<=0/\0<=b.hi.val
 ·simp only [b0,and_self,decide_true,ctr]
  by_cases a0:a.lo.val<=0/\0<=a.hi.val
  ·simp only [a0,and_self,decide_true,ctr];exact In.whole _
  ·simp only [a0,decide_false,cfl]
   by_cases c1:a.lo.val<0
   ·simp only [c1,decide_true,ctr]
    by_cases c2:b.lo.val<0
    ·have c3:b.hi.val>=0:=b0.2
     simp only [c2,c3,decide_true,ctr];exact In.whole _
    ·simp only [c2,decide_false,cfl];exact key (by omega) (by omega)
   ·simp only [c1,decide_false,cfl];exact key (by omega) (by omega)
 ·simp only [b0,decide_false,cfl]
  by_cases c1:a.lo.val<0
  ·simp only [c1,decide_true,ctr]
   by_cases c2:b.lo.val<0
   ·by_cases c3:b.hi.val>=0
    ·simp only [c2,c3,decide_true,ctr];exact In.whole _
    ·simp only [c2,c3,decide_true,decide_false,ctr,cfl];exact key (by omega) (by omega)
   ·simp only [c2,decide_false,cfl];exact key (by omega) (by omega)
  ·simp only [c1,decide_false,cfl];exact key (by omega) (by omega)
theorem In.norm {x y z:Re} {v:Vec} (hx:In x v.x) (hy:In y v.y) (hz:In z v.z):In (An.sqrt (x*x+y*y+z*z)) (F_spec_NormV v):=by
 simp only [F_spec_NormV,t_spec_NormV,Tr.get,siw_eq,zcu,ends_eq]
 cases ox:zh v.x
 ·exact In.whole _
 cases oy:zh v.y
 ·exact In.whole _
 cases oz:zh v.z
 ·exact In.whole _
 simp only [Bool.not_true,cfl,abs_make ox,abs_make oy,abs_make oz]
 have ex:=Nc.ends_val ox
 have ey:=Nc.ends_val oy
 have ez:=Nc.ends_val oz
 have jx:=hx.ends ox
 have jy:=hy.ends oy
 have jz:=hz.ends oz
 generalize (zH v.x).a=x1 at *
 generalize (zH v.x).b=x2 at *
 generalize (zH v.y).a=y1 at *
 generalize (zH v.y).b=y2 at *
 generalize (zH v.z).a=z1 at *
 generalize (zH v.z).b=z2 at *
 obtain ⟨a1,a2,a3,a4⟩:=sum_spec (x:=x1) (y:=y1) (z:=z1) (by omega) (by omega) (by omega)
 obtain ⟨b1,b2,b3,b4⟩:=sum_spec (x:=x2) (y:=y2) (z:=z2) (by omega) (by omega) (by omega)
 obtain ⟨r0,r1,r2⟩:=root_mk a2 (by omega)
 obtain ⟨q0,q1,q2⟩:=root_mk b2 (by omega)
 have hle:sq3 x1 y1 z1<=sq3 x2 y2 z2:=by
  have k1:=sq_mono ex.1 ex.2.2.2.2.2
  have k2:=sq_mono ey.1 ey.2.2.2.2.2
  have k3:=sq_mono ez.1 ez.2.2.2.2.2
  unfold sq3;omega
 have hR:(zA (mkW (sq3 x1 y1 z1))).val<=(zA (mkW (sq3 x2 y2 z2))).val:=by
  by_cases hh:(zA (mkW (sq3 x1 y1 z1))).val<=(zA (mkW (sq3 x2 y2 z2))).val
  ·exact hh
  ·have:=sq_mono (a:=(zA (mkW (sq3 x2 y2 z2))).val+1) (b:=(zA (mkW (sq3 x1 y1 z1))).val) (by omega) (by omega)
   omega
 have hQ:(zA (mkW (sq3 x2 y2 z2))).val<=2305843009213693952:=Ev.sq_lt q0 (by decide) (by omega)
 -- the true length
 have sqe:∀t:Re,t*t=An.abs t*An.abs t:=fun t=>(abs_sq t).symm
 have lo:zi (sq3 x1 y1 z1)*rat (1/18446744073709551616)<=x*x+y*y+z*z:=by
  have e1:=mul_le (fx_nn ex.1) jx.1 (fx_nn ex.1) jx.1
  have e2:=mul_le (fx_nn ey.1) jy.1 (fx_nn ey.1) jy.1
  have e3:=mul_le (fx_nn ez.1) jz.1 (fx_nn ez.1) jz.1
  rw [fx_sq,abs_sq] at e1 e2 e3
  unfold sq3
  rw [zi_add,zi_add]
  generalize zi (x1.val*x1.val)=p at *;generalize zi (y1.val*y1.val)=q at *;generalize zi (z1.val*z1.val)=r at *
  exact zY [x,y,z,p,q,r] (pn (pn (sn e1) (sn e2)) (sn e3))
 have hi:x*x+y*y+z*z<=zi (sq3 x2 y2 z2)*rat (1/18446744073709551616):=by
  have e1:=mul_le (zcP x) jx.2 (zcP x) jx.2
  have e2:=mul_le (zcP y) jy.2 (zcP y) jy.2
  have e3:=mul_le (zcP z) jz.2 (zcP z) jz.2
  rw [fx_sq,abs_sq] at e1 e2 e3
  unfold sq3
  rw [zi_add,zi_add]
  generalize zi (x2.val*x2.val)=p at *;generalize zi (y2.val*y2.val)=q at *;generalize zi (z2.val*z2.val)=r at *
  exact zY [x,y,z,p,q,r] (pn (pn (sn e1) (sn e2)) (sn e3))
 have s0:0<=x*x+y*y+z*z:=pn (pn (sqn x) (sqn y)) (sqn z)
 have down:∀r:Int,0<=r->r*r<=sq3 x1 y1 z1->fx r<=An.sqrt (x*x+y*y+z*z):=fun r h0 hr=>by
  refine sq_le (An.sqrt_nn _) ?_
  rw [An.sqrt_sq s0,fx_sq]
  exact le_trans (zk_le hr) lo
 have up:∀r:Int,0<=r->sq3 x2 y2 z2<=r*r->An.sqrt (x*x+y*y+z*z)<=fx r:=fun r h0 hr=>by
  refine sq_le (fx_nn h0) ?_
  rw [An.sqrt_sq s0,fx_sq]
  exact le_trans hi (zk_le hr)
 simp only [a1,b1,mul_spec]
 generalize hR1:zA (mkW (sq3 x1 y1 z1))=R1 at *
 generalize hR2:zA (mkW (sq3 x2 y2 z2))=R2 at *
 have w1:(Rng.w .i64 R1.val).val=R1.val:=wi (by omega) (by omega)
 have w2:(Rng.w .i64 R2.val).val=R2.val:=wi (by omega) (by omega)
 have w3:(Rng.w .i64 (R2.val+1)).val=R2.val+1:=wi (by omega) (by omega)
 rw [w2]
 have q3:=Int.mul_nonneg q0 q0
 have c2:R2.val*R2.val<=2305843009213693952*2305843009213693952:=Int.mul_le_mul hQ hQ q0 (by decide)
 have wm:=zfW (v:=R2.val*R2.val) (by omega) (by omega)
 have ws:=zfW (v:=sq3 x2 y2 z2) (by omega) (by omega)
 generalize hc:((mkW (R2.val*R2.val)).hi.val==(mkW (sq3 x2 y2 z2)).hi.val&&((mkW (R2.val*R2.val)).lo.val==(mkW (sq3 x2 y2 z2)).lo.val&&true))=c
 cases c
 ·simp only [Bool.not_false,ctr,w3]
  by_cases hm:R2.val+1>=1152921504606846976
  ·simp only [hm,decide_true,ctr];exact In.whole _
  ·simp only [hm,decide_false,cfl]
   intro _
   simp only [w1,w3]
   exact ⟨down _ r0 r1,up _ (by omega) (by omega)⟩
 ·simp only [Bool.not_true,cfl,w2]
  by_cases hm:R2.val>=1152921504606846976
  ·simp only [hm,decide_true,ctr];exact In.whole _
  ·simp only [hm,decide_false,cfl]
   intro _
   simp only [w1,w2]
   refine ⟨down _ r0 r1,up _ q0 ?_⟩
   simp only [Bool.and_true,Bool.and_eq_true,beq_iff_eq] at hc
   have:wv (mkW (R2.val*R2.val))=wv (mkW (sq3 x2 y2 z2)):=by unfold wv;rw [hc.1,hc.2]
   rw [wm,ws] at this
   omega
end Go.Proofs.YtfcjhkkpbnobhaaGreat.Nc
namespace Go.Proofs.YtfcjhkkpbnobhaaGreat.Nc
open Go Go.Proofs.YtfcjhkkpbnobhaaGreat.An
open Go.Proofs.YtfcjhkkpbnobhaaGreat.Ev hiding mn mul_bd neg_eq sq_lt sub_eq
structure Rv where
 x:Re
 y:Re
 z:Re
def Rv.dot (a b:Rv):Re:=a.x*b.x+a.y*b.y+a.z*b.z
def Rv.cross (a b:Rv):Rv:=⟨a.y*b.z-a.z*b.y,a.z*b.x-a.x*b.z,a.x*b.y-a.y*b.x⟩
def InV (u:Rv) (v:Vec):Prop:=In u.x v.x/\In u.y v.y/\In u.z v.z
theorem InV.dot {u w:Rv} {a b:Vec} (h:InV u a) (k:InV w b):In (u.dot w) (zbk a b):=by
 simp only [zbk,t_spec_DotV,Tr.get]
 exact ((h.1.mul k.1).add (h.2.1.mul k.2.1)).add (h.2.2.mul k.2.2)
theorem InV.cross {u w:Rv} {a b:Vec} (h:InV u a) (k:InV w b):InV (u.cross w) (zbd a b):=by
 simp only [zbd,t_spec_CrossV,Tr.get]
 exact ⟨(h.2.1.mul k.2.2).sub (h.2.2.mul k.2.1),(h.2.2.mul k.1).sub (h.1.mul k.2.2),(h.1.mul k.2.1).sub (h.2.1.mul k.1)⟩
def vec (u v w s:Re):Rv:=⟨u*v,u*w,s⟩
def pv (p:za1):Rv:=vec (An.cos (Nc.rad p.lat.val)) (An.cos (Nc.rad p.lon.val)) (An.sin (Nc.rad p.lon.val)) (An.sin (Nc.rad p.lat.val))
def Cl (p:za1):Iv:=zbb (zaN p.lat)
def Cn (p:za1):Iv:=zbb (zaN p.lon)
def Sl (p:za1):Iv:=zbz (zaN p.lat)
def Sn (p:za1):Iv:=zbz (zaN p.lon)
theorem vectorOf_val {p:za1} (h:zai p=true):zaA p=⟨zN (Cl p) (Cn p),zN (Cl p) (Sn p),Sl p⟩:=by
 simp only [zaA,t_impl_vectorOf,Tr.get,lat_eq h,lon_eq h,cosI_eq,sinI_eq,mulI_F,Cl,Cn,Sl,Sn]
theorem InV.any {p:za1} (h:zai p=true) {u v w s:Re} (hu:In u (Cl p)) (hv:In v (Cn p)) (hw:In w (Sn p)) (hs:In s (Sl p)):InV (vec u v w s) (zaA p):=by
 rw [vectorOf_val h]
 exact ⟨hu.mul hv,hu.mul hw,hs⟩
theorem InV.vec {p:za1} (h:zai p=true):InV (pv p) (zaA p):=InV.any h In.rad.cos In.rad.cos In.rad.sin In.rad.sin
theorem In.has {x:Re} {a:Iv} (h:In x a) {n:I64} (hx:x=fx n.val):zaT a n=true:=by
 simp only [zaT,t_spec_HasI,Tr.get]
 cases o:zh a
 ·rfl
 obtain ⟨h1,h2⟩:=h o
 subst hx
 simp only [Bool.not_true,cfl,zaC,zbZ,Tr.get,zfi]
 simpa using ⟨zfy.1 h1,zfy.1 h2⟩
theorem prod_zero {x y:Re} (h:x*y=0) (n:¬y=0):x=0:=eq_of_mul n (h.trans (An.zero_mul y).symm)
end Go.Proofs.YtfcjhkkpbnobhaaGreat.Nc
namespace Go.Proofs.YtfcjhkkpbnobhaaGreat.Nc
open Go Go.Proofs.YtfcjhkkpbnobhaaGreat.An
open Go.Proofs.YtfcjhkkpbnobhaaGreat.Ev hiding mn mul_bd neg_eq sq_lt sub_eq
theorem unit (p:za1):(pv p).dot (pv p)=1:=by
 have e1:=sc_sq (Nc.rad p.lat.val)
 have e2:=sc_sq (Nc.rad p.lon.val)
 simp only [Rv.dot,pv,Nc.vec]
 generalize An.cos (Nc.rad p.lat.val)=c at *;generalize An.sin (Nc.rad p.lat.val)=s at *
 generalize An.cos (Nc.rad p.lon.val)=d at *;generalize An.sin (Nc.rad p.lon.val)=t at *
 have e3:c*c*(t*t+d*d)=c*c*1:=congrArg (fun z=>c*c*z) e2
 have e4:c*c*(t*t+d*d)+(s*s+c*c)=c*c*1+1:=by rw [e3,e1]
 exact eq_by [c,s,d,t] e4
theorem In.overlap {x:Re} {a b:Iv} (h:In x a) (k:In x b):zaV a b=true:=by
 simp only [zaV,zdF,zcz,zdR,Tr.get]
 cases ha:zh a
 ·cases hb:zh b<;>rfl
 cases hb:zh b
 ·rfl
 obtain ⟨h1,h2⟩:=h ha
 obtain ⟨k1,k2⟩:=k hb
 have l1:=zfy.1 (le_trans h1 k2)
 have l2:=zfy.1 (le_trans k1 h2)
 have b1:=(zca _).1 ha
 have b2:=(zca _).1 hb
 have m1:=zfR a.lo b.lo
 have m2:=min_l a.hi b.hi
 have n:¬(zt a.lo b.lo).val>(zz a.hi b.hi).val:=by omega
 simp only [Bool.not_true,cfl,n,decide_false]
end Go.Proofs.YtfcjhkkpbnobhaaGreat.Nc
namespace Go.Proofs.YtfcjhkkpbnobhaaGreat.Nc
open Go Go.Proofs.YtfcjhkkpbnobhaaGreat.An
open Go.Proofs.YtfcjhkkpbnobhaaGreat.Ev hiding mn mul_bd neg_eq sq_lt sub_eq
theorem ok_iff {p:za1}:zai p=true↔(-900000000<=p.lat.val/\p.lat.val<=900000000)/\(-1799999999<=p.lon.val/\p.lon.val<=1800000000):=by
 simp only [zai,t_spec_l11Ok,Tr.get,zfi]
 by_cases h: -900000000<=p.lat.val/\p.lat.val<=900000000
 ·simp [h]
 ·simp only [h,decide_false,cfl,false_and,Bool.false_eq_true]
def Vt (a b:Iv):Vec:=⟨zN (zbb a) (zbb b),zN (zbb a) (zbz b),zbz a⟩
theorem dir_none {b a:Iv} (h:In 0 b) (k:In 0 a):zh (zbt b a)=false:=by
 have e1:zaT b ⟨0,rfl⟩=true:=h.has (show (0:Re)=fx 0 from fx_0.symm)
 have e2:zaT a ⟨0,rfl⟩=true:=k.has (show (0:Re)=fx 0 from fx_0.symm)
 simp only [zbt,zeV,Tr.get,siw_eq,zcu,e1,e2,ctr]
 cases zh b
 ·exact zbX
 cases zh a
 ·exact zbX
 exact zbX
theorem pos_val {v:Vec} (h:(za5 v).c.val=0):zh (zbt v.z (zdu v))=true/\(za5 v).a=zbt v.z (zdu v)/\(za5 v).b=zbt v.y v.x:=by
 simp only [za5,ze0,Tr.get,dirI_eq,flat_eq] at h ⊢
 generalize zbt v.z (zdu v)=x at *
 cases o:zh x
 ·exfalso
  have e:zd0 x=⟨⟨⟨0,rfl⟩,⟨0,rfl⟩⟩,⟨9,rfl⟩⟩:=by simp only [zd0,t_impl_knownI,Tr.get,isw_eq,o,Bool.not_false,ctr]
  rw [e] at h
  cases h
 ·have e:zd0 x=⟨x,⟨0,rfl⟩⟩:=by simp only [zd0,t_impl_knownI,Tr.get,isw_eq,o,Bool.not_true,cfl]
  rw [e]
  exact ⟨rfl,rfl,rfl⟩
theorem pos_law {W:Rv} {v:Vec} (h:InV W v) (hc:(za5 v).c.val=0):
  ∃(R:Re) (U:Rv),¬R=0/\W=⟨R*U.x,R*U.y,R*U.z⟩/\InV U (Vt (za5 v).a (za5 v).b):=by
 obtain ⟨o,e1,e2⟩:=pos_val hc
 rw [e1,e2]
 have hf:In (An.sqrt (W.x*W.x+W.y*W.y)) (zdu v):=by
  simp only [zdu,t_spec_l15Flat,Tr.get]
  have:=In.norm (v:=⟨v.x,v.y,⟨⟨0,rfl⟩,⟨0,rfl⟩⟩⟩) (z:=0) h.1 h.2.1 (fun _=>by simp only [fx_0];exact ⟨le_refl _,le_refl _⟩)
  rwa [show W.x*W.x+W.y*W.y+0*0=W.x*W.x+W.y*W.y from by obtain ⟨x,y,z⟩:=W;exact An.ring [x,y]] at this
 obtain ⟨x,y,z⟩:=W
 simp only at hf h
 have hl:=h.2.2.dir hf
 have hm:=h.2.1.dir h.1
 simp only at hl hm
 have ρx:x=An.sqrt (x*x+y*y)*An.cos (An.dir y x)/\y=An.sqrt (x*x+y*y)*An.sin (An.dir y x):=by
  by_cases k:y=0/\x=0
  ·obtain ⟨rfl,rfl⟩:=k
   rw [show (0:Re)*0+0*0=0 from An.ring [],sqrt_eq (le_refl 0) (An.zero_mul 0)]
   exact ⟨(An.zero_mul _).symm,(An.zero_mul _).symm⟩
  ·exact dir_polar k
 generalize An.sqrt (x*x+y*y)=r at *
 by_cases k:z=0/\r=0
 ·exfalso
  obtain ⟨rfl,rfl⟩:=k
  have:=dir_none h.2.2 hf
  rw [this] at o;cases o
 obtain ⟨p1,p2⟩:=dir_polar k
 have R0:¬An.sqrt (r*r+z*z)=0:=fun e=>k ⟨by rw [p2,e,An.zero_mul],by rw [p1,e,An.zero_mul]⟩
 refine ⟨An.sqrt (r*r+z*z),⟨An.cos (An.dir z r)*An.cos (An.dir y x),An.cos (An.dir z r)*An.sin (An.dir y x),An.sin (An.dir z r)⟩,R0,?_,?_⟩
 ·obtain ⟨q1,q2⟩:=ρx
  have a1:x=An.sqrt (r*r+z*z)*(An.cos (An.dir z r)*An.cos (An.dir y x)):=by rw [<- An.mul_assoc,<- p1];exact q1
  have a2:y=An.sqrt (r*r+z*z)*(An.cos (An.dir z r)*An.sin (An.dir y x)):=by rw [<- An.mul_assoc,<- p1];exact q2
  exact congr (congr (congrArg Rv.mk a1) a2) p2
 ·exact ⟨hl.cos.mul hm.cos,hl.cos.mul hm.sin,hl.sin⟩
theorem has_zero {x:Re} {a:Iv} (h:In x a) (e:x=0):zaT a ⟨0,rfl⟩=true:=h.has (by rw [e];exact fx_0.symm)
theorem dot_scale {n U:Rv} {R:Re} (h:¬R=0) (e:n.dot ⟨R*U.x,R*U.y,R*U.z⟩=0):n.dot U=0:=by
 refine prod_zero (y:=R) ?_ h
 obtain ⟨a1,a2,a3⟩:=n;obtain ⟨b1,b2,b3⟩:=U
 simp only [Rv.dot] at *
 exact eq_by [a1,a2,a3,b1,b2,b3,R] e
def Rv.plus (a b:Rv):Rv:=⟨a.x+b.x,a.y+b.y,a.z+b.z⟩
theorem InV.plus {u w:Rv} {a b:Vec} (h:InV u a) (k:InV w b):InV (u.plus w) (F_impl_AddV a b):=by
 simp only [F_impl_AddV,t_impl_AddV,Tr.get,add_eq]
 exact ⟨h.1.add k.1,h.2.1.add k.2.1,h.2.2.add k.2.2⟩
theorem vectorOf_ok {p:za1} (h:zai p=true):(zam p).a=zaA p:=by
 simp only [zam,t_impl_VectorOf,Tr.get,point_eq,h,Bool.not_true,cfl]
theorem mid_val {p q:za1} (h1:zai p=true) (h2:zai q=true):zaX p q=za5 (F_impl_AddV (zaA p) (zaA q)):=by
 simp only [zaX,t_impl_MidwayOf,Tr.get,areValid_eq,h1,h2,Bool.and_true,Bool.not_true,cfl]
theorem crossing_val {p q r s:za1} (h1:zai p=true) (h2:zai q=true) (h3:zai r=true) (h4:zai s=true):
  zaf p q r s=za5 (zbd (zbd (zaA p) (zaA q)) (zbd (zaA r) (zaA s))):=by
 simp only [zaf,ze2,Tr.get,point_eq,h1,h2,h3,h4,Bool.not_true,cfl,cross_eq]
theorem mid_law {p q:za1} (h1:zai p=true) (h2:zai q=true) (h:(zaX p q).c.val=0):
  zaT (zbk (zbd (zam p).a (zam q).a) (Vt (zaX p q).a (zaX p q).b)) ⟨0,rfl⟩=true /\
  zaV (zbk (zam p).a (Vt (zaX p q).a (zaX p q).b)) (zbk (zam q).a (Vt (zaX p q).a (zaX p q).b))=true:=by
 rw [vectorOf_ok h1,vectorOf_ok h2]
 rw [mid_val h1 h2] at h ⊢
 obtain ⟨R,U,R0,e,hu⟩:=pos_law ((InV.vec h1).plus (InV.vec h2)) h
 have up:=unit p
 have uq:=unit q
 refine ⟨has_zero (((InV.vec h1).cross (InV.vec h2)).dot hu) (dot_scale R0 ?_),?_⟩
 ·rw [<- e]
  generalize pv p=a;generalize pv q=b
  obtain ⟨a1,a2,a3⟩:=a;obtain ⟨b1,b2,b3⟩:=b
  simp only [Rv.dot,Rv.cross,Rv.plus]
  exact An.ring [a1,a2,a3,b1,b2,b3]
 ·have hp':=(InV.vec h1).dot hu
  have hq':=(InV.vec h2).dot hu
  have:(pv p).dot U=(pv q).dot U:=by
   have z:((⟨(pv p).x-(pv q).x,(pv p).y-(pv q).y,(pv p).z-(pv q).z⟩:Rv)).dot U=0:=by
    refine dot_scale R0 ?_
    rw [<- e]
    generalize pv p=a at *;generalize pv q=b at *
    obtain ⟨a1,a2,a3⟩:=a;obtain ⟨b1,b2,b3⟩:=b
    simp only [Rv.dot,Rv.plus] at *
    exact eq_by [a1,a2,a3,b1,b2,b3] (up.trans uq.symm)
   generalize pv p=a at *;generalize pv q=b at *
   obtain ⟨a1,a2,a3⟩:=a;obtain ⟨b1,b2,b3⟩:=b;obtain ⟨u1,u2,u3⟩:=U
   simp only [Rv.dot] at *
   exact eq_by [a1,a2,a3,b1,b2,b3,u1,u2,u3] z
  rw [this] at hp'
  exact hp'.overlap hq'
theorem crossing_law {p q r s:za1} (h1:zai p=true) (h2:zai q=true) (h3:zai r=true) (h4:zai s=true) (h:(zaf p q r s).c.val=0):
  zaT (zbk (zbd (zam p).a (zam q).a) (Vt (zaf p q r s).a (zaf p q r s).b)) ⟨0,rfl⟩=true /\
  zaT (zbk (zbd (zam r).a (zam s).a) (Vt (zaf p q r s).a (zaf p q r s).b)) ⟨0,rfl⟩=true:=by
 rw [vectorOf_ok h1,vectorOf_ok h2,vectorOf_ok h3,vectorOf_ok h4]
 rw [crossing_val h1 h2 h3 h4] at h ⊢
 have hm:=(InV.vec h1).cross (InV.vec h2)
 have hn:=(InV.vec h3).cross (InV.vec h4)
 obtain ⟨R,U,R0,e,hu⟩:=pos_law (hm.cross hn) h
 generalize (pv p).cross (pv q)=a at *;generalize (pv r).cross (pv s)=b at *
 refine ⟨has_zero (hm.dot hu) (dot_scale R0 ?_),has_zero (hn.dot hu) (dot_scale R0 ?_)⟩<;>rw [<- e] <;>
  (obtain ⟨a1,a2,a3⟩:=a;obtain ⟨b1,b2,b3⟩:=b;simp only [Rv.dot,Rv.cross];exact An.ring [a1,a2,a3,b1,b2,b3])
end Go.Proofs.YtfcjhkkpbnobhaaGreat.Nc
