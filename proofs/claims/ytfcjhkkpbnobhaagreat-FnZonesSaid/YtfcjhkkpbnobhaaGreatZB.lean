/- The law FnZones gives true, whatever bytes come in. No conditions. (One of the texts of its proof, put together by a program of this session.) -/
import Derived.Test.YtfcjhkkpbnobhaaGreatZA
import Derived.Test.YtfcjhkkpbnobhaaGreatZW5
import Derived.Test.YtfcjhkkpbnobhaaGreatZW8
set_option linter.unusedSectionVars false
set_option linter.unusedSimpArgs false
set_option linter.unusedVariables false
noncomputable section
namespace Go.Proofs.YtfcjhkkpbnobhaaGreat.Nc
open Go Go.Proofs.YtfcjhkkpbnobhaaGreat.An
open Go.Proofs.YtfcjhkkpbnobhaaGreat.Ev hiding mn mul_bd neg_eq sq_lt sub_eq
def fx (n:Int):Re:=zi n*rat (1/4294967296)
def In (x:Re) (a:Iv):Prop:=zf a=true->fx a.lo.val<=x/\x<=fx a.hi.val
theorem In.no {x:Re} {a:Iv} (h:zf a=false):In x a:=fun k=>by rw [h] at k;cases k
theorem In.whole (x:Re):In x zk:=In.no zbI
theorem zer {a b:Int}:fx a<=fx b↔a<=b:=by
 unfold fx
 constructor
 ·intro h;exact zi_le.1 (zdI (qp (1/4294967296)) h)
 ·intro h;have:=zi_le.2 h;generalize zi a=x at *;generalize zi b=y at *;exact zX [x,y] (mn (sn this) (qn (1/4294967296)))
theorem fx_lt {a b:Int}:fx a<fx b↔a<b:=by
 rw [<- An.not_le,zer];omega
theorem fx_add (a b:Int):fx (a+b)=fx a+fx b:=by unfold fx;rw [zi_add,An.add_mul]
theorem fx_neg (a:Int):fx (-a)= - fx a:=by unfold fx;rw [zi_neg,An.neg_mul]
theorem fx_sub (a b:Int):fx (a-b)=fx a-fx b:=by rw [Int.sub_eq_add_neg,fx_add,fx_neg];rfl
theorem fx_0:fx 0=0:=An.zero_mul _
theorem fx_unit (a:Int):fx (a*4294967296)=zi a:=by
 unfold fx;rw [zey];generalize zi a=x
 show x*rat (4294967296:Int)*_=x
 exact ring [x]
theorem fx_1:fx 4294967296=1:=fx_unit 1
theorem fx_nn {a:Int} (h:0<=a):0<=fx a:=by rw [<- fx_0];exact zer.2 h
theorem fx_p {a:Int} (h:0<a):0<fx a:=by rw [<- fx_0];exact fx_lt.2 h
theorem fx_neg' {a:Int} (h:a<0):fx a<0:=by rw [<- fx_0];exact fx_lt.2 h
theorem In.point {n:I64}:In (fx n.val) ⟨n,n⟩:=fun _=>⟨le_refl _,le_refl _⟩
theorem In.add {x y:Re} {a b:Iv} (h:In x a) (k:In y b):In (x+y) (zG a b):=fun ok=>by
 obtain ⟨o1,o2,e1,e2⟩:=addI_val ok
 obtain ⟨h1,h2⟩:=h o1
 obtain ⟨k1,k2⟩:=k o2
 rw [e1,e2,fx_add,fx_add]
 exact ⟨add_le h1 k1,add_le h2 k2⟩
theorem In.sub {x y:Re} {a b:Iv} (h:In x a) (k:In y b):In (x-y) (zR a b):=fun ok=>by
 obtain ⟨o1,o2,e1,e2⟩:=subI_val ok
 obtain ⟨h1,h2⟩:=h o1
 obtain ⟨k1,k2⟩:=k o2
 rw [e1,e2,fx_sub,fx_sub]
 generalize fx a.lo.val=p at *;generalize fx a.hi.val=q at *;generalize fx b.lo.val=r at *;generalize fx b.hi.val=s at *
 exact ⟨zX [x,y,p,q,r,s] (pn (sn h1) (sn k2)),zX [x,y,p,q,r,s] (pn (sn h2) (sn k1))⟩
theorem In.dbl {x:Re} {a:Iv} (h:In x a):In (2*x) (zbD a):=fun ok=>by
 obtain ⟨o1,e1,e2⟩:=dblI_val ok
 obtain ⟨h1,h2⟩:=h o1
 rw [e1,e2,show 2*a.lo.val=a.lo.val+a.lo.val by omega,show 2*a.hi.val=a.hi.val+a.hi.val by omega,fx_add,fx_add]
 generalize fx a.lo.val=p at *;generalize fx a.hi.val=q at *
 exact ⟨zX [x,p,q] (kn 2 (sn h1)),zX [x,p,q] (kn 2 (sn h2))⟩
theorem negI_val {a:Iv} (h:zf (zaE a)=true):zf a=true/\(zaE a).lo.val= -a.hi.val/\(zaE a).hi.val= -a.lo.val:=by
 simp only [zaE,t_spec_NegI,Tr.get] at h ⊢
 cases ha:zf a
 ·rw [ha] at h;simp only [Bool.not_false,ctr] at h;rw [zbI] at h;cases h
 have b:=(zbz _).1 ha
 have e1:(Rng.w .i64 (0-a.hi.val)).val= -a.hi.val:=by rw [wi (by omega) (by omega)];omega
 have e2:(Rng.w .i64 (0-a.lo.val)).val= -a.lo.val:=by rw [wi (by omega) (by omega)];omega
 simp only [ha,Bool.not_true,cfl] at h ⊢
 rw [zbT (by rw [e1,e2];omega)]
 exact ⟨trivial,e1,e2⟩
theorem In.neg {x:Re} {a:Iv} (h:In x a):In (-x) (zaE a):=fun ok=>by
 obtain ⟨o1,e1,e2⟩:=negI_val ok
 obtain ⟨h1,h2⟩:=h o1
 rw [e1,e2,fx_neg,fx_neg]
 generalize fx a.lo.val=p at *;generalize fx a.hi.val=q at *
 exact ⟨zX [x,q] (sn h2),zX [x,p] (sn h1)⟩
theorem fx_floor {p d:Int} (hd:0<d):zi (p/d)*zi d<=zi p:=by
 rw [<- zey,zi_le]
 have:=Int.ediv_mul_le p (show d≠0 by omega)
 omega
theorem fx_mul_lo (x y:Int):fx (x*y/4294967296)<=fx x*fx y:=by
 have:=fx_floor (p:=x*y) (d:=4294967296) (by decide)
 rw [zey x y] at this
 unfold fx
 generalize zi (x*y/4294967296)=q at *;generalize zi x=a at *;generalize zi y=b at *
 rw [show zi 4294967296=rat 4294967296 from rfl] at this
 exact zX [q,a,b] (kn (1/18446744073709551616) (sn this))
theorem fx_mul_hi (x y:Int):fx x*fx y<=fx (-(-(x*y)/4294967296)):=by
 have:=fx_mul_lo (-x) y
 rw [show -x*y= -(x*y) from Int.neg_mul x y,fx_neg x] at this
 rw [fx_neg]
 generalize fx (-(x*y)/4294967296)=q at *;generalize fx x=a at *;generalize fx y=b at *
 exact zX [q,a,b] (sn this)
theorem real_lo {p q r s x y L:Re} (hx:p<=x) (hx':x<=q) (hy:r<=y) (hy':y<=s) (h1:L<=p*r) (h2:L<=p*s) (h3:L<=q*r) (h4:L<=q*s):L<=x*y:=by
 have a:∀u,L<=u*r->L<=u*s->L<=u*y:=fun u k1 k2=>by
  rcases le_total 0 u with m|m
  ·exact le_trans k1 (zX [u,r,y] (mn m (sn hy)))
  ·exact le_trans k2 (zX [u,s,y] (mn (neg_nn m) (sn hy')))
 have b1:=a p h1 h2
 have b2:=a q h3 h4
 rcases le_total 0 y with m|m
 ·exact le_trans b1 (zX [p,x,y] (mn (sn hx) m))
 ·exact le_trans b2 (zX [q,x,y] (mn (sn hx') (neg_nn m)))
theorem real_hi {p q r s x y L:Re} (hx:p<=x) (hx':x<=q) (hy:r<=y) (hy':y<=s) (h1:p*r<=L) (h2:p*s<=L) (h3:q*r<=L) (h4:q*s<=L):x*y<=L:=by
 have:=real_lo (L:= -L) (p:= -q) (q:= -p) (x:= -x) (zX [q,x] (sn hx')) (zX [p,x] (sn hx)) hy hy'
  (zX [q,r,L] (sn h3)) (zX [q,s,L] (sn h4)) (zX [p,r,L] (sn h1)) (zX [p,s,L] (sn h2))
 exact zX [x,y,L] (sn this)
theorem In.mul {x y:Re} {a b:Iv} (h:In x a) (k:In y b):In (x*y) (zu a b):=fun ok=>by
 obtain ⟨o1,o2,hc⟩:=mulI_corner ok
 obtain ⟨h1,h2⟩:=h o1
 obtain ⟨k1,k2⟩:=k o2
 have lo:∀u v:I64,(u=a.lo\/u=a.hi)->(v=b.lo\/v=b.hi)->fx (zu a b).lo.val<=fx u.val*fx v.val:=fun u v hu hv=>le_trans (zer.2 (hc u v hu hv).1) (fx_mul_lo _ _)
 have hi:∀u v:I64,(u=a.lo\/u=a.hi)->(v=b.lo\/v=b.hi)->fx u.val*fx v.val<=fx (zu a b).hi.val:=fun u v hu hv=>le_trans (fx_mul_hi _ _) (zer.2 (hc u v hu hv).2)
 exact ⟨real_lo h1 h2 k1 k2 (lo _ _ (.inl rfl) (.inl rfl)) (lo _ _ (.inl rfl) (.inr rfl)) (lo _ _ (.inr rfl) (.inl rfl)) (lo _ _ (.inr rfl) (.inr rfl)),
  real_hi h1 h2 k1 k2 (hi _ _ (.inl rfl) (.inl rfl)) (hi _ _ (.inl rfl) (.inr rfl)) (hi _ _ (.inr rfl) (.inl rfl)) (hi _ _ (.inr rfl) (.inr rfl))⟩
theorem ends_val {a:Iv} (h:zf a=true):0<=(zaf a).a.val/\((a.lo.val<=0/\0<=a.hi.val/\(zaf a).a.val=0)\/(0<a.lo.val/\(zaf a).a.val=a.lo.val)\/(a.hi.val<0/\(zaf a).a.val= -a.hi.val)) /\
  a.hi.val<=(zaf a).b.val /\ -a.lo.val<=(zaf a).b.val/\(zaf a).b.val<1152921504606846976/\(zaf a).a.val<=(zaf a).b.val:=by
 have b:=(zbz _).1 h
 have n1:(Rng.w .i64 (0-a.lo.val)).val= -a.lo.val:=by rw [wi (by omega) (by omega)];omega
 have n2:(Rng.w .i64 (0-a.hi.val)).val= -a.hi.val:=by rw [wi (by omega) (by omega)];omega
 have m1:=max_l a.lo (.w .i64 (0-a.lo.val))
 have m2:=max_l a.hi (.w .i64 (0-a.hi.val))
 have m3:=max_l (zD a.lo (.w .i64 (0-a.lo.val))) (zD a.hi (.w .i64 (0-a.hi.val)))
 have m4:=min_l (zD a.lo (.w .i64 (0-a.lo.val))) (zD a.hi (.w .i64 (0-a.hi.val)))
 rw [n1] at m1
 rw [n2] at m2
 have hh:za7 a ⟨0,rfl⟩=decide (a.lo.val<=0/\0<=a.hi.val):=by simp only [za7,zcR,Tr.get,zdg]
 simp only [zaf,zft,Tr.get,hh]
 by_cases c:a.lo.val<=0/\0<=a.hi.val
 ·simp only [c,and_self,decide_true,ctr]
  exact ⟨by decide,by first|exact .inl trivial|simp [c.1,c.2],by omega,by omega,by omega,by omega⟩
 ·simp only [c,decide_false,cfl]
  exact ⟨by omega,by omega,by omega,by omega,by omega,by omega⟩
theorem In.ends {x:Re} {a:Iv} (h:In x a) (o:zf a=true):fx (zaf a).a.val<=An.abs x/\An.abs x<=fx (zaf a).b.val:=by
 obtain ⟨h1,h2⟩:=h o
 obtain ⟨e0,e1,e2,e3,e4,e5⟩:=ends_val o
 constructor
 ·rcases e1 with ⟨_,_,e⟩|⟨k,e⟩|⟨k,e⟩
  ·rw [e,fx_0];exact zeY x
  ·rw [e];exact le_trans h1 (le_abs x)
  ·rw [e,fx_neg]
   have:=neg_le_abs x
   generalize fx a.hi.val=q at *;generalize An.abs x=u at *
   exact zX [x,q,u] (pn (sn this) (sn h2))
 ·refine zfN ?_ (le_trans h2 (zer.2 e2))
  refine le_trans ?_ h1
  rw [<- fx_neg];exact zer.2 (by omega)
theorem In.sqr {x:Re} {a:Iv} (h:In x a):In (x*x) (zaW a):=fun ok=>by
 obtain ⟨o1,e1,e2⟩:=sqrI_val ok
 obtain ⟨h1,h2⟩:=h.ends o1
 have e0:=(ends_val o1).1
 rw [e1,e2,<- abs_sq]
 exact ⟨le_trans (fx_mul_lo _ _) (mul_le (fx_nn e0) h1 (fx_nn e0) h1),le_trans (mul_le (zeY x) h2 (zeY x) h2) (fx_mul_hi _ _)⟩
theorem zi_nn {a:Int} (h:0<=a):0<=zi a:=by rw [<- zi_0];exact zi_le.2 h
theorem fx_sq (a:Int):fx a*fx a=zi (a*a)*rat (1/18446744073709551616):=by
 unfold fx;rw [zey];generalize zi a=x;exact ring [x]
theorem fx_up (a:Int):fx a=zi (a*4294967296)*rat (1/18446744073709551616):=by
 unfold fx;rw [zey];generalize zi a=x;show _=x*rat (4294967296:Int)*_;exact ring [x]
theorem zk_le {a b:Int} (h:a<=b):zi a*rat (1/18446744073709551616)<=zi b*rat (1/18446744073709551616):=by
 have:=zi_le.2 h;generalize zi a=x at *;generalize zi b=y at *;exact zX [x,y] (mn (sn this) (qn (1/18446744073709551616)))
theorem In.sqrt {x:Re} {a:Iv} (h:In x a):In (An.sqrt x) (zbK a):=fun ok=>by
 obtain ⟨o1,o2⟩:=sqrtI_nn ok
 obtain ⟨_,e1,e2⟩:=sqrtI_mk o1 o2
 have b:=(zbz _).1 o1
 obtain ⟨h1,h2⟩:=h o1
 have x0:=le_trans (fx_nn o2) h1
 rw [e1,e2]
 obtain ⟨q,p,s1,s2,t0,t1,t2,t3,t4,t5,t6,t7⟩:=su_val2 a.lo (by omega)
 obtain ⟨q',p',s1',s2',t0',t1',t2',t3',t4',t5',t6',t7'⟩:=su_val2 a.hi (by omega)
 rw [s1,s2']
 simp only
 constructor
 ·refine sq_le (An.sqrt_nn x) ?_
  rw [An.sqrt_sq x0,fx_sq]
  refine le_trans ?_ h1
  rw [fx_up];exact zk_le t2
 ·refine sq_le (fx_nn (by omega)) ?_
  rw [An.sqrt_sq x0,fx_sq]
  refine le_trans h2 ?_
  rw [fx_up];exact zk_le t6'
theorem fx_div_lo {x y:Int} (hy:0<y):fx (x*4294967296/y)<=fx x/fx y:=by
 rw [le_div (fx_p hy)]
 have:=fx_floor (p:=x*4294967296) hy
 unfold fx
 rw [zey x] at this
 generalize zi (x*4294967296/y)=q at *;generalize zi x=a at *;generalize zi y=b at *
 rw [show zi 4294967296=rat 4294967296 from rfl] at this
 exact zX [q,a,b] (kn (1/18446744073709551616) (sn this))
theorem neg_div (x y:Re): -x/y= -(x/y):=by rw [div_eq,div_eq,An.neg_mul]
theorem fx_div_hi {x y:Int} (hy:0<y):fx x/fx y<=fx (-(-x*4294967296/y)):=by
 have:=fx_div_lo (x:= -x) hy
 rw [fx_neg,neg_div] at this
 rw [fx_neg]
 generalize fx (-x*4294967296/y)=q at *;generalize fx x/fx y=a at *
 exact zX [q,a] (sn this)
theorem inv_le {y s:Re} (h0:0<y) (h:y<=s):s⁻¹<=y⁻¹:=by
 have hs:=lt_of_lt_of_le h0 h
 have e1:=mul_inv (ne_of_gt h0)
 have e2:=mul_inv (ne_of_gt hs)
 refine zdI (mp h0 hs) ?_
 generalize y⁻¹=a at *;generalize s⁻¹=b at *
 rw [show b*(y*s)=y*(s*b) from ring [b,y,s],show a*(y*s)=s*(y*a) from ring [a,y,s],e1,e2]
 exact zX [y,s] (sn h)
theorem In.div_pos {x y:Re} {a b:Iv} (h:In x a) (k:In y b) (h0:0<b.lo.val):In (x/y) (zw a b):=fun ok=>by
 obtain ⟨o1,o2,hc⟩:=divI_corner h0 ok
 obtain ⟨h1,h2⟩:=h o1
 obtain ⟨k1,k2⟩:=k o2
 have b':=(zbz _).1 o2
 have y0:=lt_of_lt_of_le (fx_p h0) k1
 have i1:=inv_le y0 k2
 have i2:=inv_le (fx_p h0) k1
 have p0:∀v:I64,(v=b.lo\/v=b.hi)->0<v.val:=by rintro v (rfl|rfl)<;>omega
 have lo:∀u v:I64,(u=a.lo\/u=a.hi)->(v=b.lo\/v=b.hi)->fx (zw a b).lo.val<=fx u.val*(fx v.val)⁻¹:=fun u v hu hv=>le_trans (zer.2 (hc u v hu hv).1) (fx_div_lo (p0 v hv))
 have hi:∀u v:I64,(u=a.lo\/u=a.hi)->(v=b.lo\/v=b.hi)->fx u.val*(fx v.val)⁻¹<=fx (zw a b).hi.val:=fun u v hu hv=>le_trans (fx_div_hi (p0 v hv)) (zer.2 (hc u v hu hv).2)
 exact ⟨real_lo h1 h2 i1 i2 (lo _ _ (.inl rfl) (.inr rfl)) (lo _ _ (.inl rfl) (.inl rfl)) (lo _ _ (.inr rfl) (.inr rfl)) (lo _ _ (.inr rfl) (.inl rfl)),
  real_hi h1 h2 i1 i2 (hi _ _ (.inl rfl) (.inr rfl)) (hi _ _ (.inl rfl) (.inl rfl)) (hi _ _ (.inr rfl) (.inr rfl)) (hi _ _ (.inr rfl) (.inl rfl))⟩
end Go.Proofs.YtfcjhkkpbnobhaaGreat.Nc
namespace Go.Proofs.YtfcjhkkpbnobhaaGreat.Nc
open Go Go.Proofs.YtfcjhkkpbnobhaaGreat.An
open Go.Proofs.YtfcjhkkpbnobhaaGreat.Ev hiding mn mul_bd neg_eq sq_lt sub_eq
theorem hull_in {a b:Iv} (ha:zf a=true) (hb:zf b=true):zf (zac a b)=true/\(zac a b).lo.val<=a.lo.val/\(zac a b).lo.val<=b.lo.val/\a.hi.val<=(zac a b).hi.val/\b.hi.val<=(zac a b).hi.val/\((zac a b).lo.val=a.lo.val\/(zac a b).lo.val=b.lo.val)/\((zac a b).hi.val=a.hi.val\/(zac a b).hi.val=b.hi.val):=by
 have oa:=(zbz _).1 ha
 have ob:=(zbz _).1 hb
 have m1:=min_l a.lo b.lo
 have m2:=max_l a.hi b.hi
 simp only [zac,t_spec_HullI,Tr.get,ha,hb,Bool.not_true,cfl]
 rw [zbT (by omega)]
 exact ⟨(zbz _).2 (by simp only;omega),by simp only;omega,by simp only;omega,by simp only;omega,by simp only;omega,by simp only;omega,by simp only;omega⟩
theorem hull_ok {a b:Iv} (h:zf (zac a b)=true):zf a=true/\zf b=true:=by
 simp only [zac,t_spec_HullI,Tr.get] at h
 cases ha:zf a
 ·rw [ha] at h;simp only [Bool.not_false,ctr] at h;rw [zbI] at h;cases h
 cases hb:zf b
 ·rw [ha,hb] at h;simp only [Bool.not_false,Bool.not_true,ctr,cfl] at h;rw [zbI] at h;cases h
 exact ⟨rfl,rfl⟩
theorem In.hull_l {x:Re} {a b:Iv} (h:In x a):In x (zac a b):=fun ok=>by
 obtain ⟨oa,ob⟩:=hull_ok ok
 have hv:=hull_in oa ob
 obtain ⟨h1,h2⟩:=h oa
 exact ⟨le_trans (zer.2 hv.2.1) h1,le_trans h2 (zer.2 hv.2.2.2.1)⟩
theorem In.hull_r {x:Re} {a b:Iv} (h:In x b):In x (zac a b):=fun ok=>by
 obtain ⟨oa,ob⟩:=hull_ok ok
 have hv:=hull_in oa ob
 obtain ⟨h1,h2⟩:=h ob
 exact ⟨le_trans (zer.2 hv.2.2.1) h1,le_trans h2 (zer.2 hv.2.2.2.2.1)⟩
theorem In.between {x y z:Re} {a:Iv} (h:In x a) (k:In y a) (h1:x<=z) (h2:z<=y):In z a:=fun ok=>⟨le_trans (h ok).1 h1,le_trans h2 (k ok).2⟩
theorem In.int {n:I64} (h: -268435455<=n.val/\n.val<=268435455):In (zi n.val) (zm n):=fun _=>by
 have e:(Rng.w .i64 (n.val*4294967296)).val=n.val*4294967296:=wi (by omega) (by omega)
 rw [int_val h]
 simp only [e,fx_unit]
 exact ⟨le_refl _,le_refl _⟩
theorem In.one:In 1 (zm ⟨1,rfl⟩):=In.int (n:=⟨1,rfl⟩) (by decide)
theorem int_ok {n:I64} (h: -268435455<=n.val/\n.val<=268435455):zf (zm n)=true/\(zm n).lo.val=n.val*4294967296/\(zm n).hi.val=n.val*4294967296:=by
 have e:(Rng.w .i64 (n.val*4294967296)).val=n.val*4294967296:=wi (by omega) (by omega)
 rw [int_val h]
 exact ⟨(zbz _).2 (by simp only [e];omega),e,e⟩
theorem In.over {x:Re} {a:Iv} (h:In x a) {n:I64} (q:Nat) (hn:n.val=((q+1:Nat):Int)) (hq:q<=268435454):In (x*rat (1/((q+1:Nat):Rat))) (zw a (zm n)):=by
 have hb: -268435455<=n.val/\n.val<=268435455:=by omega
 have:=h.div_pos (In.int hb) (by rw [(int_ok hb).2.1];omega)
 have e:x/zi n.val=x*rat (1/((q+1:Nat):Rat)):=by
  rw [hn,zi_nat]
  have i:=inv_nat q
  have p:0<rat ((q+1:Nat):Rat):=nat_p (Nat.succ_pos q)
  refine eq_of_mul (ne_of_gt p) ?_
  rw [div_mul (ne_of_gt p)]
  generalize rat ((q+1:Nat):Rat)=u at *;generalize rat (1/((q+1:Nat):Rat))=v at *
  exact eq_by [x,u,v] (congrArg (fun t=>x * -t) i:x * -(u*v)=x * -1)
 rwa [e] at this
theorem ring_ok:zf zS=true/\zS.lo.val= -4294967296/\zS.hi.val=4294967296:=⟨(zbz _).2 (by decide +kernel),rfl,rfl⟩
theorem fx_m1:fx (-4294967296)= -1:=by rw [fx_neg,fx_1]
theorem In.ring {x:Re} (h1: -1<=x) (h2:x<=1):In x zS:=fun _=>by
 rw [ring_ok.2.1,ring_ok.2.2,fx_m1,fx_1];exact ⟨h1,h2⟩
theorem In.tiny {x:Re} (h:An.abs x<=rat (1/4294967296)):In x zbC:=fun _=>by
 obtain ⟨a,b⟩:=zd8 h
 have e1:zbC.lo.val= -1:=rfl
 have e2:zbC.hi.val=1:=rfl
 have e3:fx 1=rat (1/4294967296):=one_mul _
 rw [e1,e2,fx_neg,e3];exact ⟨a,b⟩
theorem meet_in (a:Iv):zf (zaD a)=true /\ -4294967296<=(zaD a).lo.val/\(zaD a).hi.val<=4294967296 /\
  ((zaD a).lo.val= -4294967296\/(zf a=true/\(zaD a).lo.val=a.lo.val))/\((zaD a).hi.val=4294967296\/(zf a=true/\(zaD a).hi.val=a.hi.val)):=by
 have o:=ring_ok.1
 have e1:zS.lo.val= -4294967296:=rfl
 have e2:zS.hi.val=4294967296:=rfl
 simp only [zaD,zfs,za9,zd3,Tr.get,o,Bool.not_true,cfl]
 cases ha:zf a
 ·simp only [Bool.not_false,Bool.not_true,ctr,cfl];exact ⟨o,by omega,by omega,.inl e1,.inl e2⟩
 have ba:=(zbz _).1 ha
 have m1:=max_l a.lo zS.lo
 have m2:=min_l a.hi zS.hi
 rw [e1] at m1
 rw [e2] at m2
 simp only [Bool.not_true,cfl]
 by_cases hlt:(zD a.lo zS.lo).val>(zJ a.hi zS.hi).val
 ·simp only [hlt,decide_true,ctr,Bool.not_false];exact ⟨o,by omega,by omega,.inl e1,.inl e2⟩
 ·simp only [hlt,decide_false,cfl,Bool.not_true]
  refine ⟨(zbz _).2 (by first|omega|(simp only;omega)),by first|omega|(simp only;omega),by first|omega|(simp only;omega),?_,?_⟩
  ·simp only [true_and];omega
  ·simp only [true_and];omega
theorem In.meet {x:Re} {a:Iv} (h:In x a) (h1: -1<=x) (h2:x<=1):In x (zaD a):=fun ok=>by
 obtain ⟨_,_,_,m1,m2⟩:=meet_in a
 constructor
 ·rcases m1 with e|⟨o,e⟩
  ·rw [e,fx_m1];exact h1
  ·rw [e];exact (h o).1
 ·rcases m2 with e|⟨o,e⟩
  ·rw [e,fx_1];exact h2
  ·rw [e];exact (h o).2
def chk (n:Int):Bool:=decide ((n*7244019458077122842)%1073741824+n<=1073741824)
def chkTo:Nat->Bool
 | 0=>true
 | n+1=>chk ((n+1:Nat):Int)&&chkTo n
theorem chk_all:chkTo 4096=true:=by kernel_rfl
theorem chk_of {n:Nat} (h:chkTo n=true) {m:Int} (h1:0<m) (h2:m<=(n:Int)):(m*7244019458077122842)%1073741824+m<=1073741824:=by
 induction n with
 | zero=>exact absurd h1 (by omega)
 | succ n ih=>
  simp only [chkTo,Bool.and_eq_true] at h
  by_cases k:m=((n+1:Nat):Int)
  ·rw [k];exact of_decide_eq_true h.1
  ·exact ih h.2 (by omega)
theorem turn_val {k:I64} (h:0<k.val) (h':k.val<=4096):(zaQ k).lo.val=k.val*7244019458077122842/1073741824/\(zaQ k).hi.val=k.val*7244019458077122842/1073741824+1 /\
  (zbP k).lo.val=k.val*7244019458077122842/1073741824/\(zbP k).hi.val=k.val*7244019458077122842/1073741824+1:=by
 obtain ⟨e,b1,b2⟩:=turn_lo h h'
 have e0:(k.val==0)=false:=by simp;omega
 have hd:decide (k.val<0)=false:=by simp;omega
 simp only [zaQ,zcQ,zbP,zda,Tr.get,e0,hd,e,cfl]
 have e1:(Rng.w .i64 (k.val*7244019458077122842/1073741824)).val=k.val*7244019458077122842/1073741824:=wi (by omega) (by omega)
 rw [e1]
 have e2:(Rng.w .i64 (k.val*7244019458077122842/1073741824+1)).val=k.val*7244019458077122842/1073741824+1:=wi (by omega) (by omega)
 exact ⟨rfl,e2,rfl,e2⟩
theorem turn_real {k:Int} (h:0<k) (h':k<=4096):fx (k*7244019458077122842/1073741824)<=qt k/\qt k<=fx (k*7244019458077122842/1073741824+1):=by
 have hk2:=chk_of chk_all (m:=k) h (by omega)
 have f1:(k*7244019458077122842/1073741824)*1073741824<=k*7244019458077122842:=by omega
 have f2:k*7244019458077122843<=(k*7244019458077122842/1073741824+1)*1073741824:=by omega
 have g1:=zi_le.2 f1
 have g2:=zi_le.2 f2
 rw [zey,zey] at g1 g2
 have z0:=zi_nn (show 0<=k by omega)
 have p1:=hp_lo
 have p2:=hp_hi
 unfold fx qt
 generalize zi (k*7244019458077122842/1073741824)=q at *;generalize zi (k*7244019458077122842/1073741824+1)=q' at *;generalize zi k=z at *
 rw [show zi 1073741824=rat 1073741824 from rfl] at g1 g2
 rw [show zi 7244019458077122842=rat 7244019458077122842 from rfl] at g1
 rw [show zi 7244019458077122843=rat 7244019458077122843 from rfl] at g2
 generalize hp=p at *
 exact ⟨zX [q,z,p] (pn (kn (1/4611686018427387904) (sn g1)) (mn z0 (sn p1))),zX [q',z,p] (pn (kn (1/4611686018427387904) (sn g2)) (mn z0 (sn p2)))⟩
theorem In.turn {k:I64} (h: -4096<=k.val) (h':k.val<=4096):zf (zU k)=true/\fx (zU k).lo.val<=qt k.val/\qt k.val<=fx (zU k).hi.val:=by
 obtain ⟨g,e⟩:=turn_in h h'
 rw [e]
 by_cases k0:k.val=0
 ·have e0:(k.val==0)=true:=by simp [k0]
  have ev:zaQ k=⟨⟨0,rfl⟩,⟨0,rfl⟩⟩:=by simp only [zaQ,zcQ,Tr.get,e0,ctr]
  rw [ev,k0]
  refine ⟨(zbz _).2 (by decide),?_,?_⟩
  ·show fx 0<=qt 0;rw [fx_0,qt_0];exact le_refl _
  ·show qt 0<=fx 0;rw [fx_0,qt_0];exact le_refl _
 by_cases kp:0<k.val
 ·obtain ⟨v1,v2,_,_⟩:=turn_val kp h'
  obtain ⟨r1,r2⟩:=turn_real kp h'
  refine ⟨(zbz _).2 ?_,by rw [v1];exact r1,by rw [v2];exact r2⟩
  rw [v1,v2];omega
 ·have en:(Rng.w .i64 (0-k.val)).val= -k.val:=by rw [wi (by omega) (by omega)];omega
  obtain ⟨_,_,v1,v2⟩:=turn_val (k:= .w .i64 (0-k.val)) (by rw [en];omega) (by rw [en];omega)
  obtain ⟨r1,r2⟩:=turn_real (k:= -k.val) (by omega) (by omega)
  rw [en] at v1 v2
  have e0:(k.val==0)=false:=by simp [k0]
  have hd:decide (k.val<0)=true:=by simp;omega
  obtain ⟨x,h1,h2,h3⟩:=turn_p (.w .i64 (0-k.val)) (by rw [en];omega) (by rw [en];omega)
  have g1:zdV (.w .i64 (0-k.val))=true:=by unfold zdV;rw [h1];rfl
  have w1:(Rng.w .i64 (0-(zbP (.w .i64 (0-k.val))).hi.val)).val= -(-k.val*7244019458077122842/1073741824+1):=by rw [v2,wi (by omega) (by omega)];omega
  have w2:(Rng.w .i64 (0-(zbP (.w .i64 (0-k.val))).lo.val)).val= -(-k.val*7244019458077122842/1073741824):=by rw [v1,wi (by omega) (by omega)];omega
  have ev:zaQ k=⟨.w .i64 (0-(zbP (.w .i64 (0-k.val))).hi.val),.w .i64 (0-(zbP (.w .i64 (0-k.val))).lo.val)⟩:=by
   simp only [zaQ,zcQ,Tr.get,e0,hd,g1,ctr,cfl]
  rw [ev]
  simp only [w1,w2]
  have qn':=qt_neg k.val
  rw [qn'] at r1 r2
  refine ⟨(zbz _).2 (by simp only [w1,w2];omega),?_,?_⟩
  ·rw [fx_neg];generalize fx (-k.val*7244019458077122842/1073741824+1)=u at *;generalize qt k.val=v at *;exact zX [u,v] (sn r2)
  ·rw [fx_neg];generalize fx (-k.val*7244019458077122842/1073741824)=u at *;generalize qt k.val=v at *;exact zX [u,v] (sn r1)
theorem In.turn' {k:I64} (h: -4096<=k.val) (h':k.val<=4096):In (qt k.val) (zU k):=fun _=>(In.turn h h').2
def rad (n:Int):Re:=zi n*(hp*rat (1/900000000))
theorem rad_neg (n:Int):rad (-n)= - rad n:=by unfold rad;rw [zi_neg,An.neg_mul]
theorem rad_0:rad 0=0:=An.zero_mul _
theorem rad_real {n:Int} (h:0<n):fx (n*7244019458077122842/966367641600000000)<=rad n/\rad n<=fx (n*7244019458077122843/966367641600000000+1):=by
 have f1:(n*7244019458077122842/966367641600000000)*966367641600000000<=n*7244019458077122842:=by omega
 have f2:n*7244019458077122843<=(n*7244019458077122843/966367641600000000+1)*966367641600000000:=by omega
 have g1:=zi_le.2 f1
 have g2:=zi_le.2 f2
 rw [zey,zey] at g1 g2
 have z0:=zi_nn (show 0<=n by omega)
 have p1:=hp_lo
 have p2:=hp_hi
 unfold fx rad
 generalize zi (n*7244019458077122842/966367641600000000)=q at *;generalize zi (n*7244019458077122843/966367641600000000+1)=q' at *;generalize zi n=z at *
 rw [show zi 966367641600000000=rat 966367641600000000 from rfl] at g1 g2
 rw [show zi 7244019458077122842=rat 7244019458077122842 from rfl] at g1
 rw [show zi 7244019458077122843=rat 7244019458077122843 from rfl] at g2
 generalize hp=p at *
 exact ⟨zX [q,z,p] (pn (kn (1/4150517416584649113600000000) (sn g1)) (kn (1/900000000) (mn z0 (sn p1)))),zX [q',z,p] (pn (kn (1/4150517416584649113600000000) (sn g2)) (kn (1/900000000) (mn z0 (sn p2))))⟩
theorem rad_val {n:I64} (h:0<n.val) (h':n.val<=36000000000):((zaJ n).lo.val=n.val*7244019458077122842/966367641600000000/\(zaJ n).hi.val=n.val*7244019458077122843/966367641600000000+1) /\
  ((zcz n).lo.val=n.val*7244019458077122842/966367641600000000/\(zcz n).hi.val=n.val*7244019458077122843/966367641600000000+1)/\zeb n=true:=by
 have e0:(n.val==0)=false:=by simp;omega
 have hd:decide (n.val<0)=false:=by simp;omega
 have hi:zah n ⟨(-36000000000),rfl⟩ ⟨36000000000,rfl⟩=true:=by rw [zdg];simp;omega
 have m1:zaV n ⟨7244019458077122842,rfl⟩ ⟨966367641600000000,rfl⟩=⟨.w .i64 (n.val*7244019458077122842/966367641600000000),true⟩:=by
  rw [zd9,MD,if_pos (by decide)];exact zfk (by simp only;omega) (by simp only;omega)
 have m2:zaV n ⟨7244019458077122843,rfl⟩ ⟨966367641600000000,rfl⟩=⟨.w .i64 (n.val*7244019458077122843/966367641600000000),true⟩:=by
  rw [zd9,MD,if_pos (by decide)];exact zfk (by simp only;omega) (by simp only;omega)
 have w1:(Rng.w .i64 (n.val*7244019458077122842/966367641600000000)).val=n.val*7244019458077122842/966367641600000000:=wi (by omega) (by omega)
 have w2:(Rng.w .i64 (n.val*7244019458077122843/966367641600000000)).val=n.val*7244019458077122843/966367641600000000:=wi (by omega) (by omega)
 have w3:(Rng.w .i64 (n.val*7244019458077122843/966367641600000000+1)).val=n.val*7244019458077122843/966367641600000000+1:=wi (by omega) (by omega)
 refine ⟨?_,?_,?_⟩
 ·simp only [zaJ,zbN,Tr.get,hi,e0,hd,m1,m2,md_G_spec,ctr,cfl,Bool.not_true,w1,w2,w3,and_self]
 ·simp only [zcz,zb0,Tr.get,hi,e0,hd,m1,m2,md_G_spec,ctr,cfl,Bool.not_true,w1,w2,w3,and_self]
 ·simp only [zeb,zb0,Tr.opt,hi,e0,hd,m1,m2,md_G_spec,ctr,cfl,Bool.not_true,Option.isSome]
theorem In.rad {n:I64}:In (rad n.val) (zaJ n):=by
 by_cases hr: -36000000000<=n.val/\n.val<=36000000000
 ·have hi:zah n ⟨(-36000000000),rfl⟩ ⟨36000000000,rfl⟩=true:=by rw [zdg];simpa using hr
  by_cases k0:n.val=0
  ·have e0:(n.val==0)=true:=by simp [k0]
   have ev:zaJ n=⟨⟨0,rfl⟩,⟨0,rfl⟩⟩:=by simp only [zaJ,zbN,Tr.get,hi,e0,ctr,cfl,Bool.not_true]
   rw [ev,k0]
   intro _
   show fx 0<=Nc.rad 0/\Nc.rad 0<=fx 0
   rw [fx_0,rad_0];exact ⟨le_refl _,le_refl _⟩
  by_cases kp:0<n.val
  ·intro _
   rw [(rad_val kp hr.2).1.1,(rad_val kp hr.2).1.2]
   exact rad_real kp
  ·have en:(Rng.w .i64 (0-n.val)).val= -n.val:=by rw [wi (by omega) (by omega)];omega
   obtain ⟨_,⟨v1,v2⟩,g⟩:=rad_val (n:= .w .i64 (0-n.val)) (by rw [en];omega) (by rw [en];omega)
   have e0:(n.val==0)=false:=by simp [k0]
   have hd:decide (n.val<0)=true:=by simp;omega
   simp only [zaJ,zbN,Tr.get,hi,e0,hd,g,ctr,cfl,Bool.not_true]
   have:In (Nc.rad (-n.val)) (zcz (.w .i64 (0-n.val))):=fun _=>by
    rw [v1,v2,en];exact rad_real (by omega)
   have:=this.neg
   rw [rad_neg] at this
   rwa [show - - Nc.rad n.val=Nc.rad n.val from by generalize Nc.rad n.val=u;exact An.ring [u]] at this
 ·have hi:zah n ⟨(-36000000000),rfl⟩ ⟨36000000000,rfl⟩=false:=by rw [zdg];simpa using hr
  simp only [zaJ,zbN,Tr.get,hi,Bool.not_false,ctr,zcu]
  exact In.whole _
end Go.Proofs.YtfcjhkkpbnobhaaGreat.Nc
namespace Go.Proofs.YtfcjhkkpbnobhaaGreat.Nc
open Go Go.Proofs.YtfcjhkkpbnobhaaGreat.An
open Go.Proofs.YtfcjhkkpbnobhaaGreat.Ev hiding mn mul_bd neg_eq sq_lt sub_eq
theorem In.over' {x:Re} {a:Iv} (h:In x a) {n:I64} (q:Nat) (r:Rat) (hn:n.val=((q+1:Nat):Int):=by kernel_rfl) (hq:decide (q<=268435454)=true:=by kernel_rfl) (hr:1/((q+1:Nat):Rat)=r:=by kernel_rfl):In (x*rat r) (zw a (zm n)):=by
 rw [<- hr];exact h.over q hn (of_decide_eq_true hq)
theorem In.series0 {y:Re} {a:Iv} (h:In y a):In (1-y*rat (1/6)*(1-y*rat (1/20)*(1-y*rat (1/42)*(1-y*rat (1/72)*(1-y*rat (1/110)*(1-y*rat (1/156)*(1-y*rat (1/210)*(1-y*rat (1/272)*1)))))))) (za2 a ⟨0,rfl⟩):=by
 simp only [za2,zcD,Tr.get]
 exact (In.sub In.one (In.mul (h.over' 5 (1/6)) (In.sub In.one (In.mul (h.over' 19 (1/20)) (In.sub In.one (In.mul (h.over' 41 (1/42)) (In.sub In.one (In.mul (h.over' 71 (1/72)) (In.sub In.one (In.mul (h.over' 109 (1/110)) (In.sub In.one (In.mul (h.over' 155 (1/156)) (In.sub In.one (In.mul (h.over' 209 (1/210)) (In.sub In.one (In.mul (h.over' 271 (1/272)) In.one))))))))))))))))
theorem In.series1 {y:Re} {a:Iv} (h:In y a):In (1-y*rat (1/2)*(1-y*rat (1/12)*(1-y*rat (1/30)*(1-y*rat (1/56)*(1-y*rat (1/90)*(1-y*rat (1/132)*(1-y*rat (1/182)*(1-y*rat (1/240)*1)))))))) (za2 a ⟨-1,rfl⟩):=by
 simp only [za2,zcD,Tr.get]
 exact (In.sub In.one (In.mul (h.over' 1 (1/2)) (In.sub In.one (In.mul (h.over' 11 (1/12)) (In.sub In.one (In.mul (h.over' 29 (1/30)) (In.sub In.one (In.mul (h.over' 55 (1/56)) (In.sub In.one (In.mul (h.over' 89 (1/90)) (In.sub In.one (In.mul (h.over' 131 (1/132)) (In.sub In.one (In.mul (h.over' 181 (1/182)) (In.sub In.one (In.mul (h.over' 239 (1/240)) In.one))))))))))))))))
theorem ring_in {a:Iv} (h:zaP a zS=true):zf a=true /\ -4294967296<=a.lo.val/\a.hi.val<=4294967296:=by
 have e1:zS.lo.val= -4294967296:=rfl
 have e2:zS.hi.val=4294967296:=rfl
 simp only [zaP,zdm,Tr.get,ring_ok.1,Bool.not_true,cfl,e1,e2] at h
 revert h
 cases zf a<;>by_cases h1: -4294967296<=a.lo.val<;>simp [h1,ctr,cfl]
theorem In.abs1 {x:Re} {a:Iv} (h:In x a) (k:zaP a zS=true):An.abs x<=1:=by
 obtain ⟨o,k1,k2⟩:=ring_in k
 obtain ⟨h1,h2⟩:=h o
 have l1:=zer.2 k1
 have l2:=zer.2 k2
 rw [fx_m1] at l1
 rw [fx_1] at l2
 exact zfN (le_trans l1 h1) (le_trans h2 l2)
theorem In.sinS {x:Re} {a:Iv} (h:In x a):In (sin x) (zbe a):=by
 simp only [zbe,zdP,Tr.get,zcu]
 cases hi:zaP a zS
 ·exact In.whole _
 simp only [Bool.not_true,cfl]
 have e:=le_trans (sin_horner (h.abs1 hi)) (num_le _ (1/4294967296))
 have:=(h.mul h.sqr.series0).add (In.tiny e)
 generalize x*(1-(x*x)*rat (1/6)*(1-(x*x)*rat (1/20)*(1-(x*x)*rat (1/42)*(1-(x*x)*rat (1/72)*(1-(x*x)*rat (1/110)*(1-(x*x)*rat (1/156)*(1-(x*x)*rat (1/210)*(1-(x*x)*rat (1/272)*1))))))))=u at *;generalize sin x=s at *
 rwa [show u+(s-u)=s from An.ring [u,s]] at this
theorem In.cosS {x:Re} {a:Iv} (h:In x a):In (cos x) (zbf a):=by
 simp only [zbf,zdR,Tr.get,zcu]
 cases hi:zaP a zS
 ·exact In.whole _
 simp only [Bool.not_true,cfl]
 have e:=le_trans (cos_horner (h.abs1 hi)) (num_le _ (1/4294967296))
 have:=h.sqr.series1.add (In.tiny e)
 generalize (1-(x*x)*rat (1/2)*(1-(x*x)*rat (1/12)*(1-(x*x)*rat (1/30)*(1-(x*x)*rat (1/56)*(1-(x*x)*rat (1/90)*(1-(x*x)*rat (1/132)*(1-(x*x)*rat (1/182)*(1-(x*x)*rat (1/240)*1))))))))=u at *;generalize cos x=s at *
 rwa [show u+(s-u)=s from An.ring [u,s]] at this
def and4 (x:Int):Bool:=(Rng.w .i64 (zbv .and .i64 (Rng.w .i64 x).val 3)).val==x%4
def and4To:Nat->Bool
 | 0=>and4 0
 | n+1=>and4 (n+1:Nat)&&(and4 (-((n+1:Nat):Int))&&and4To n)
theorem and4_all:and4To 600=true:=by kernel_rfl
theorem and4_of {n:Nat} (h:and4To n=true) {m:Int} (h1: -(n:Int)<=m) (h2:m<=n):(Rng.w .i64 (zbv .and .i64 (Rng.w .i64 m).val 3)).val=m%4:=by
 induction n with
 | zero=>
  have:m=0:=by omega
  subst this
  exact eq_of_beq h
 | succ n ih=>
  simp only [and4To,Bool.and_eq_true] at h
  by_cases k1:m=((n+1:Nat):Int)
  ·have:=h.1
   rw [<- k1] at this
   exact eq_of_beq this
  by_cases k2:m= -((n+1:Nat):Int)
  ·have:=h.2.1
   rw [<- k2] at this
   exact eq_of_beq this
  exact ih h.2.2 (by omega) (by omega)
theorem and4_eq {m:Int} (h1: -600<=m) (h2:m<=600):(Rng.w .i64 (zbv .and .i64 (Rng.w .i64 m).val 3)).val=m%4:=and4_of and4_all h1 h2
theorem sin_in (x:Re): -1<=sin x/\sin x<=1:=⟨sin_gem1 x,sin_le1 x⟩
theorem In.at {n t:I64} (ht:0<=t.val/\t.val<=3):In (sin (fx n.val+qt t.val)) (zbp n t):=by
 have hs:=sin_in (fx n.val+qt t.val)
 simp only [zbp,t_spec_l06At,Tr.get]
 cases za4 n
 ·exact In.ring hs.1 hs.2
 have hb:=quarter_bd n
 have h4:=and4_eq (m:=(zaq n).val+t.val) (by omega) (by omega)
 have hk:In (fx n.val-qt (zaq n).val) (zR (zH n) (zU (zaq n))):=by
  refine In.sub ?_ (In.turn' (by omega) (by omega))
  simp only [zH,zeT,Tr.get]
  exact In.point
 simp only [Bool.not_true,cfl,h4]
 generalize zR (zH n) (zU (zaq n))=c at hk
 have e:fx n.val+qt t.val=(fx n.val-qt (zaq n).val)+qt ((zaq n).val+t.val):=by
  rw [qt_add];generalize fx n.val=u;generalize qt (zaq n).val=v;generalize qt t.val=w;exact An.ring [u,v,w]
 rw [e] at hs ⊢
 generalize fx n.val-qt (zaq n).val=r at *
 generalize (zaq n).val+t.val=k at *
 have hk4:k%4=0\/k%4=1\/k%4=2\/k%4=3:=by omega
 rcases hk4 with h|h|h|h
 ·have e0:(k%4==0)=true:=by simp [h]
  simp only [e0,ctr]
  rw [sin_q0 r h] at hs ⊢
  exact hk.sinS.meet hs.1 hs.2
 ·have e0:(k%4==0)=false:=by simp [h]
  have e1:(k%4==1)=true:=by simp [h]
  simp only [e0,e1,ctr,cfl]
  rw [sin_q1 r h] at hs ⊢
  exact hk.cosS.meet hs.1 hs.2
 ·have e0:(k%4==0)=false:=by simp [h]
  have e1:(k%4==1)=false:=by simp [h]
  have e2:(k%4==2)=true:=by simp [h]
  simp only [e0,e1,e2,ctr,cfl]
  rw [sin_q2 r h] at hs ⊢
  exact hk.sinS.neg.meet hs.1 hs.2
 ·have e0:(k%4==0)=false:=by simp [h]
  have e1:(k%4==1)=false:=by simp [h]
  have e2:(k%4==2)=false:=by simp [h]
  simp only [e0,e1,e2,cfl]
  rw [sin_q3 r h] at hs ⊢
  exact hk.cosS.neg.meet hs.1 hs.2
theorem ring_bd:zf zS=true /\ -4294967296<=zS.lo.val/\zS.hi.val<=4294967296:=⟨ring_ok.1,by rw [ring_ok.2.1];decide,by rw [ring_ok.2.2];decide⟩
theorem at_in (n t:I64):zf (zbp n t)=true /\ -4294967296<=(zbp n t).lo.val/\(zbp n t).hi.val<=4294967296:=by
 have m:∀a,zf (zaD a)=true /\ -4294967296<=(zaD a).lo.val/\(zaD a).hi.val<=4294967296:=fun a=>⟨(meet_in a).1,(meet_in a).2.1,(meet_in a).2.2.1⟩
 simp only [zbp,t_spec_l06At,Tr.get]
 cases za4 n
 ·exact ring_bd
 simp only [Bool.not_true,cfl]
 generalize ((Rng.w .i64 (zbv .and .i64 (Rng.w .i64 ((zaq n).val+t.val)).val 3)).val==0)=c0
 generalize ((Rng.w .i64 (zbv .and .i64 (Rng.w .i64 ((zaq n).val+t.val)).val 3)).val==1)=c1
 generalize ((Rng.w .i64 (zbv .and .i64 (Rng.w .i64 ((zaq n).val+t.val)).val 3)).val==2)=c2
 cases c0<;>cases c1<;>cases c2<;>exact m _
theorem quarter_all {n:I64} (h: -1099511627776<=n.val/\n.val<=1099511627776):(zaq n).val=(n.val+3373259426)/6746518852:=by
 have ha:za4 n=true:=by simp only [za4,zdC,Tr.get,zdg];simpa using h
 have hb:=h
 have e1:(Rng.w .i64 (n.val+3373259426)).val=n.val+3373259426:=wi (by omega) (by omega)
 have hs:Int.sign 6746518852=1:=rfl
 have ht:=Int.tdiv_eq_ediv (a:=n.val+3373259426) (b:=6746518852)
 have q1:(Rng.w .i64 ((n.val+3373259426).tdiv 6746518852)).val=(n.val+3373259426).tdiv 6746518852:=by
  refine wi ?_ ?_<;>(split at ht<;>omega)
 have hm:=Int.mul_tdiv_add_tmod (n.val+3373259426) 6746518852
 have m1:(Rng.w .i64 ((n.val+3373259426).tmod 6746518852)).val=(n.val+3373259426).tmod 6746518852:=by
  refine wi ?_ ?_<;>(split at ht<;>omega)
 have z:((6746518852:Int)==0)=false:=rfl
 simp only [zaq,zdQ,Tr.get,ha,Bool.not_true,cfl,G_spec_l06Floor,F_spec_l06Floor,zfT,Tr.opt,Tr.get,e1,q1,m1,z]
 by_cases hc:(n.val+3373259426).tmod 6746518852<0
 ·have w1:(Rng.w .i64 ((n.val+3373259426).tdiv 6746518852-1)).val=(n.val+3373259426).tdiv 6746518852-1:=by
   refine wi ?_ ?_<;>(split at ht<;>omega)
  simp only [hc,decide_true,ctr,Option.isSome_some,w1]
  split at ht<;>omega
 ·simp only [hc,decide_false,cfl,ctr,Option.isSome_some,q1]
  split at ht<;>omega
theorem overlap_of {a b:Iv} (ha:zf a=true) (hb:zf b=true) (h1:a.lo.val<=b.hi.val) (h2:b.lo.val<=a.hi.val):zav a b=true:=by
 have oa:=(zbz _).1 ha
 have ob:=(zbz _).1 hb
 have m1:=max_l a.lo b.lo
 have m2:=min_l a.hi b.hi
 have hn:¬(zD a.lo b.lo).val>(zJ a.hi b.hi).val:=by omega
 simp only [zav,zeB,za9,zd3,Tr.get,ha,hb,Bool.not_true,cfl,hn,decide_false]
theorem keepF_mem (x:Iv) (k':I64) (h1:k'.val<=(k1 x).val) (h2:zav (zU k') x=true) (h3:(k1 x).val<=1000):
  ∀(n:Nat) (k:I64),-1000<=k.val->k.val<=k'.val->k'.val-k.val<n->k'∈keepF x n k:=by
 intro n
 induction n with
 | zero=>intro k _ _ h;omega
 | succ n ih=>
  intro k hl hk hn
  have hd:decide (k.val<=(k1 x).val)=true:=by simp;omega
  have en:(Rng.w .i64 (k.val+1)).val=k.val+1:=wi (by omega) (by omega)
  simp only [keepF,hd,ctr,overlap_eq,turnI_eq]
  by_cases e:k.val=k'.val
  ·have e':k=k':=Rng.ext e
   subst e'
   simp only [h2,ctr]
   exact List.mem_cons_self ..
  ·have:=ih (.w .i64 (k.val+1)) (by omega) (by omega) (by omega)
   cases zav (zU k) x
   ·exact this
   ·exact List.mem_cons_of_mem _ this
theorem one_val:zf (zm ⟨1,rfl⟩)=true/\(zm ⟨1,rfl⟩).lo.val=4294967296/\(zm ⟨1,rfl⟩).hi.val=4294967296:=int_ok (n:=⟨1,rfl⟩) (by decide)
theorem mone_val:zf (zm ⟨-1,rfl⟩)=true/\(zm ⟨-1,rfl⟩).lo.val= -4294967296/\(zm ⟨-1,rfl⟩).hi.val= -4294967296:=int_ok (n:=⟨-1,rfl⟩) (by decide)
theorem hullF_in (t:I64):∀(L:List I64) (o:Iv),zf o=true->zf (hullF t L o)=true/\(hullF t L o).lo.val<=o.lo.val/\o.hi.val<=(hullF t L o).hi.val /\
  (∀k∈L,(turn4 t k).val=1->4294967296<=(hullF t L o).hi.val)/\(∀k∈L,(turn4 t k).val=3->(hullF t L o).lo.val <= -4294967296):=by
 intro L
 induction L with
 | nil=>intro o ho;exact ⟨ho,Int.le_refl _,Int.le_refl _,(fun k h=>by cases h),(fun k h=>by cases h)⟩
 | cons k L ih=>
  intro o ho
  simp only [hullF,hull_eq,zbU]
  by_cases c1:(turn4 t k).val=1
  ·have e1:((turn4 t k).val==1)=true:=by simp [c1]
   simp only [e1,ctr]
   have hv:=hull_in ho one_val.1
   obtain ⟨i1,i2,i3,i4,i5⟩:=ih _ hv.1
   have o1:=one_val.2.2
   refine ⟨i1,by omega,by omega,fun j hj h=>?_,fun j hj h=>?_⟩
   ·rcases List.mem_cons.1 hj with rfl|hj
    ·omega
    ·exact i4 j hj h
   ·rcases List.mem_cons.1 hj with rfl|hj
    ·omega
    ·exact i5 j hj h
  ·have e1:((turn4 t k).val==1)=false:=by simp [c1]
   simp only [e1,cfl]
   by_cases c3:(turn4 t k).val=3
   ·have e3:((turn4 t k).val==3)=true:=by simp [c3]
    simp only [e3,ctr]
    have hv:=hull_in ho mone_val.1
    obtain ⟨i1,i2,i3,i4,i5⟩:=ih _ hv.1
    have o1:=mone_val.2.1
    refine ⟨i1,by omega,by omega,fun j hj h=>?_,fun j hj h=>?_⟩
    ·rcases List.mem_cons.1 hj with rfl|hj
     ·omega
     ·exact i4 j hj h
    ·rcases List.mem_cons.1 hj with rfl|hj
     ·omega
     ·exact i5 j hj h
   ·have e3:((turn4 t k).val==3)=false:=by simp [c3]
    simp only [e3,cfl]
    obtain ⟨i1,i2,i3,i4,i5⟩:=ih _ ho
    refine ⟨i1,by omega,by omega,fun j hj h=>?_,fun j hj h=>?_⟩
    ·rcases List.mem_cons.1 hj with rfl|hj
     ·omega
     ·exact i4 j hj h
    ·rcases List.mem_cons.1 hj with rfl|hj
     ·omega
     ·exact i5 j hj h
theorem qt_ge {k a:Int} (h:fx a<=qt k):(0<=k/\a*1073741824<=k*7244019458077122843)\/(k<0/\a*1073741824<=k*7244019458077122842):=by
 have p1:=hp_lo
 have p2:=hp_hi
 by_cases hk:0<=k
 ·left;refine ⟨hk,zi_le.1 ?_⟩
  have z0:=zi_nn hk
  rw [zey,zey,show zi 1073741824=rat 1073741824 from rfl,show zi 7244019458077122843=rat 7244019458077122843 from rfl]
  unfold fx qt at h
  generalize zi k=z at *;generalize zi a=u at *;generalize hp=p at *
  exact zX [u,z,p] (pn (kn 4611686018427387904 (sn h)) (kn 4611686018427387904 (mn z0 (sn p2))))
 ·right;refine ⟨by omega,zi_le.1 ?_⟩
  have z0:=zi_le.2 (show k<=0 by omega)
  rw [zi_0] at z0
  rw [zey,zey,show zi 1073741824=rat 1073741824 from rfl,show zi 7244019458077122842=rat 7244019458077122842 from rfl]
  unfold fx qt at h
  generalize zi k=z at *;generalize zi a=u at *;generalize hp=p at *
  exact zX [u,z,p] (pn (kn 4611686018427387904 (sn h)) (kn 4611686018427387904 (mn (neg_nn z0) (sn p1))))
theorem qt_le {k b:Int} (h:qt k<=fx b):(0<=k/\k*7244019458077122842<=b*1073741824)\/(k<0/\k*7244019458077122843<=b*1073741824):=by
 have e:fx (-b)<=qt (-k):=by rw [fx_neg,qt_neg];generalize fx b=u at *;generalize qt k=v at *;exact zX [u,v] (sn h)
 have:=qt_ge e
 omega
theorem In.over06 {x:Re} {a:Iv} (h:In x a) {t:I64} (ht:0<=t.val/\t.val<=3):In (sin (x+qt t.val)) (zfz a t):=by
 have hs:=sin_in (x+qt t.val)
 rw [<- over_eq]
 unfold zbc
 rw [fits_eq,ring_eq]
 cases hf:zco a
 ·exact In.ring hs.1 hs.2
 simp only [Bool.not_true,cfl]
 have hfit:zf a=true/\(-1099511627776<=a.lo.val/\a.lo.val<=1099511627776)/\(-1099511627776<=a.hi.val/\a.hi.val<=1099511627776):=by
  simp only [zco,t_spec_l06Fits,Tr.get,zex,zes,za4,zdC,zdg] at hf
  revert hf
  cases zf a<;>by_cases c1: -1099511627776<=a.lo.val/\a.lo.val<=1099511627776<;>by_cases c2: -1099511627776<=a.hi.val/\a.hi.val<=1099511627776<;>simp [c1,c2,ctr,cfl]
 obtain ⟨oa,⟨l1,l2⟩,⟨u1,u2⟩⟩:=hfit
 obtain ⟨h1,h2⟩:=h oa
 have ho:o0 a t=zac (zbp a.lo t) (zbp a.hi t):=by unfold o0;rw [hull_eq,circle_eq,circle_eq]
 have v1:=at_in a.lo t
 have v2:=at_in a.hi t
 have hv:=hull_in v1.1 v2.1
 rw [ho]
 obtain ⟨i1,i2,i3,i4,i5⟩:=hullF_in t (keepF a 1000 (k0 a)) _ hv.1
 have a1:=In.at (n:=a.lo) ht v1.1
 have a2:=In.at (n:=a.hi) ht v2.1
 have kb:=k_bd a
 have q0:(k0 a).val=(a.lo.val+3373259426)/6746518852-1:=by
  have qb:=quarter_bd a.lo
  unfold k0;rw [quarter_eq,wi (by omega) (by omega),quarter_all ⟨l1,l2⟩]
 have q1:(k1 a).val=(a.hi.val+3373259426)/6746518852+1:=by
  have qb:=quarter_bd a.hi
  unfold k1;rw [quarter_eq,wi (by omega) (by omega),quarter_all ⟨u1,u2⟩]
 have mem:∀j:Int,fx a.lo.val<=qt j->qt j<=fx a.hi.val->∃k:I64,k.val=j/\k∈keepF a 1000 (k0 a)/\(turn4 t k).val=(j+t.val)%4:=fun j j1 j2=>by
  have g1:=qt_ge j1
  have g2:=qt_le j2
  have jb: -200<=j/\j<=200:=by omega
  have ek:(Rng.w .i64 j).val=j:=wi (by omega) (by omega)
  refine ⟨.w .i64 j,ek,?_,?_⟩
  ·obtain ⟨t1,t2,t3⟩:=In.turn (k:= .w .i64 j) (by omega) (by omega)
   rw [ek] at t2 t3
   refine keepF_mem a _ (by omega) (overlap_of t1 oa (zer.1 (le_trans t2 j2)) (zer.1 (le_trans j1 t3))) (by omega) 1000 (k0 a) (by omega) (by omega) (by omega)
  ·unfold turn4;rw [ek];exact and4_eq (by omega) (by omega)
 intro _
 have mv:∀ {p q:Re},p<=q->∀j:Int,p+qt t.val<=qt j->p<=qt (j-t.val):=fun {p q} _ j hj=>by
  have e:=qt_add (j-t.val) t.val
  rw [show j-t.val+t.val=j by omega] at e
  rw [e] at hj
  generalize qt (j-t.val)=u at *;generalize qt t.val=v at *
  exact zX [p,u,v] (sn hj)
 have mv':∀ {p:Re},∀j:Int,qt j<=p+qt t.val->qt (j-t.val)<=p:=fun {p} j hj=>by
  have e:=qt_add (j-t.val) t.val
  rw [show j-t.val+t.val=j by omega] at e
  rw [e] at hj
  generalize qt (j-t.val)=u at *;generalize qt t.val=v at *
  exact zX [p,u,v] (sn hj)
 constructor
 ·rcases sin_bottom (add_le h1 (le_refl (qt t.val))) (add_le h2 (le_refl (qt t.val))) with c|c|⟨j,j4,j1,j2⟩
  ·exact le_trans (le_trans (zer.2 (Int.le_trans i2 hv.2.1)) a1.1) c
  ·exact le_trans (le_trans (zer.2 (Int.le_trans i2 hv.2.2.1)) a2.1) c
  ·obtain ⟨k,k1',k2,k3⟩:=mem (j-t.val) (mv (le_refl (fx a.lo.val)) j j1) (mv' j j2)
   have:=i5 k k2 (by omega)
   refine le_trans ?_ hs.1
   rw [<- fx_m1];exact zer.2 this
 ·rcases sin_top (add_le h1 (le_refl (qt t.val))) (add_le h2 (le_refl (qt t.val))) with c|c|⟨j,j4,j1,j2⟩
  ·exact le_trans c (le_trans a1.2 (zer.2 (Int.le_trans hv.2.2.2.1 i3)))
  ·exact le_trans c (le_trans a2.2 (zer.2 (Int.le_trans hv.2.2.2.2.1 i3)))
  ·obtain ⟨k,k1',k2,k3⟩:=mem (j-t.val) (mv (le_refl (fx a.lo.val)) j j1) (mv' j j2)
   have:=i4 k k2 (by omega)
   refine le_trans hs.2 ?_
   rw [<- fx_1];exact zer.2 this
theorem In.sin {x:Re} {a:Iv} (h:In x a):In (An.sin x) (zcy a):=by
 have:=h.over06 (t:=⟨0,rfl⟩) (by decide)
 rw [show ((⟨0,rfl⟩:I64).val)=0 from rfl,qt_0,An.add_zero] at this
 simp only [zcy,t_spec_SinI,Tr.get]
 exact this
end Go.Proofs.YtfcjhkkpbnobhaaGreat.Nc
namespace Go.Proofs.YtfcjhkkpbnobhaaGreat.Nc
open Go Go.Proofs.YtfcjhkkpbnobhaaGreat.An
open Go.Proofs.YtfcjhkkpbnobhaaGreat.Ev hiding mn mul_bd neg_eq sq_lt sub_eq
theorem divdown_neg {x y:I64} (hy:y.val<0) (h:(zN x y).b=true):(zN x y).a.val= -x.val*4294967296 / -y.val:=by
 have z0:(y.val==0)=false:=by simp;omega
 have z1:decide (y.val<0)=true:=by simpa using hy
 simp only [zN,zbj,Tr.get,zd9,z0,z1,ctr,cfl] at h ⊢
 cases h1:zO x
 ·rw [h1] at h;simp [ctr] at h
 cases h2:zO y
 ·rw [h1,h2] at h;simp [ctr,cfl] at h
 have bx:=ok_bd h1
 have by':=ok_bd h2
 have ex:(Rng.w .i64 (0-x.val)).val= -x.val:=by rw [wi (by omega) (by omega)];omega
 have ey:(Rng.w .i64 (0-y.val)).val= -y.val:=by rw [wi (by omega) (by omega)];omega
 rw [h1,h2] at h
 have hp:0 < -y.val:=by omega
 simp only [Bool.not_true,cfl,MD,ex,ey,hp,if_true] at h ⊢
 unfold narrow at h ⊢
 split at h
 ·rename_i hr
  rw [if_pos hr]
  rcases end_cases (.w .i64 (-x.val*4294967296 / -y.val)) true with e|⟨e,_⟩
  ·rw [e] at h;cases h
  ·rw [e];exact wi hr.1 hr.2
 ·have:(zaA (.w .i64 0) false).b=false:=by simp only [zaA,zcq,Tr.get,Bool.not_false,ctr]
  rw [this] at h;cases h
theorem divup_neg {x y:I64} (hy:y.val<0) (h:(zZ x y).b=true):(zZ x y).a.val= -(x.val*4294967296 / -y.val):=by
 simp only [zZ,zcr,Tr.get] at h ⊢
 cases h1:zO x
 ·rw [h1] at h;simp [ctr] at h
 rw [h1] at h
 simp only [Bool.not_true,cfl] at h ⊢
 have hb:=ok_bd h1
 have e:=divdown_neg hy h
 have en:(Rng.w .i64 (0-x.val)).val= -x.val:=by rw [wi (by omega) (by omega)];omega
 rw [en,Int.neg_neg] at e
 rcases ze9 (.w .i64 (0-x.val)) y with k|⟨c,k,kc⟩
 ·rw [k] at h;cases h
 ·have kb:=ok_bd kc
  rw [k] at e ⊢
  simp only at e ⊢
  rw [wi (by omega) (by omega)]
  omega
theorem divI_corner_neg {a b:Iv} (h0:b.hi.val<0) (h:zf (zw a b)=true):zf a=true/\zf b=true /\
  ∀x y:I64,(x=a.lo\/x=a.hi)->(y=b.lo\/y=b.hi)->(zw a b).lo.val <= -x.val*4294967296 / -y.val /\ -(x.val*4294967296 / -y.val)<=(zw a b).hi.val:=by
 have nw:∀ {P:Prop},zf zk=true->P:=fun h=>by rw [zbI] at h;cases h
 simp only [zw,zfY,Tr.get] at h ⊢
 cases ha:zf a
 ·rw [ha] at h;exact nw h
 cases hb:zf b
 ·rw [ha,hb] at h;exact nw h
 have bb:=(zbz _).1 hb
 have h0':b.lo.val<0:=by omega
 cases hz:za7 b ⟨0,rfl⟩
 case true=>rw [ha,hb,hz] at h;exact nw h
 simp only [ha,hb,hz,Bool.not_true,cfl] at h ⊢
 cases h1:(zN a.lo b.lo).b
 ·rw [h1] at h;exact nw h
 cases h2:(zZ a.lo b.lo).b
 ·rw [h1,h2] at h;exact nw h
 cases h3:(zN a.lo b.hi).b
 ·rw [h1,h2,h3] at h;exact nw h
 cases h4:(zZ a.lo b.hi).b
 ·rw [h1,h2,h3,h4] at h;exact nw h
 cases h5:(zN a.hi b.lo).b
 ·rw [h1,h2,h3,h4,h5] at h;exact nw h
 cases h6:(zZ a.hi b.lo).b
 ·rw [h1,h2,h3,h4,h5,h6] at h;exact nw h
 cases h7:(zN a.hi b.hi).b
 ·rw [h1,h2,h3,h4,h5,h6,h7] at h;exact nw h
 cases h8:(zZ a.hi b.hi).b
 ·rw [h1,h2,h3,h4,h5,h6,h7,h8] at h;exact nw h
 simp only [h1,h2,h3,h4,h5,h6,h7,h8,Bool.not_true,cfl] at h ⊢
 refine ⟨trivial,trivial,?_⟩
 have v1:=divdown_neg h0' h1
 have v2:=divup_neg h0' h2
 have v3:=divdown_neg h0 h3
 have v4:=divup_neg h0 h4
 have v5:=divdown_neg h0' h5
 have v6:=divup_neg h0' h6
 have v7:=divdown_neg h0 h7
 have v8:=divup_neg h0 h8
 generalize (zN a.lo b.lo).a=d1 at *
 generalize (zN a.lo b.hi).a=d2 at *
 generalize (zN a.hi b.lo).a=d3 at *
 generalize (zN a.hi b.hi).a=d4 at *
 generalize (zZ a.lo b.lo).a=u1 at *
 generalize (zZ a.lo b.hi).a=u2 at *
 generalize (zZ a.hi b.lo).a=u3 at *
 generalize (zZ a.hi b.hi).a=u4 at *
 have m1:=min_l ⟨1152921504606846976,rfl⟩ d1
 have m2:=min_l (zJ ⟨1152921504606846976,rfl⟩ d1) d2
 have m3:=min_l (zJ (zJ ⟨1152921504606846976,rfl⟩ d1) d2) d3
 have m4:=min_l (zJ (zJ (zJ ⟨1152921504606846976,rfl⟩ d1) d2) d3) d4
 have n1:=max_l ⟨-1152921504606846976,rfl⟩ u1
 have n2:=max_l (zD ⟨-1152921504606846976,rfl⟩ u1) u2
 have n3:=max_l (zD (zD ⟨-1152921504606846976,rfl⟩ u1) u2) u3
 have n4:=max_l (zD (zD (zD ⟨-1152921504606846976,rfl⟩ u1) u2) u3) u4
 generalize zJ (zJ (zJ (zJ ⟨1152921504606846976,rfl⟩ d1) d2) d3) d4=lo at *
 generalize zD (zD (zD (zD ⟨-1152921504606846976,rfl⟩ u1) u2) u3) u4=hi at *
 by_cases hm: -1152921504606846976<lo.val/\lo.val<=hi.val/\hi.val<1152921504606846976
 ·rw [zbT hm]
  simp only
  rintro x y (rfl|rfl) (rfl|rfl)
  ·omega
  ·omega
  ·omega
  ·omega
 ·rw [make_no hm] at h;exact nw h
theorem divI_two {a b:Iv} (h:zf (zw a b)=true):0<b.lo.val\/b.hi.val<0:=by
 have nw:∀ {P:Prop},zf zk=true->P:=fun h=>by rw [zbI] at h;cases h
 simp only [zw,zfY,Tr.get] at h
 cases ha:zf a
 ·rw [ha] at h;exact nw h
 cases hb:zf b
 ·rw [ha,hb] at h;exact nw h
 have ob:=(zbz _).1 hb
 have hz:za7 b ⟨0,rfl⟩=decide (b.lo.val<=0/\0<=b.hi.val):=by simp only [za7,zcR,Tr.get,zdg]
 by_cases hd:b.lo.val<=0/\0<=b.hi.val
 ·rw [ha,hb,hz,decide_eq_true hd] at h;exact nw h
 ·omega
theorem In.div {x y:Re} {a b:Iv} (h:In x a) (k:In y b):In (x/y) (zw a b):=fun ok=>by
 rcases divI_two ok with h0|h0
 ·exact h.div_pos k h0 ok
 obtain ⟨o1,o2,hc⟩:=divI_corner_neg h0 ok
 obtain ⟨h1,h2⟩:=h o1
 obtain ⟨k1,k2⟩:=k o2
 have b':=(zbz _).1 o2
 have y0:=lt_of_le_of_lt k2 (fx_neg' h0)
 have n1: -x<=fx (-a.lo.val):=by rw [fx_neg];generalize fx a.lo.val=u at *;exact zX [x,u] (sn h1)
 have n2:fx (-a.hi.val) <= -x:=by rw [fx_neg];generalize fx a.hi.val=u at *;exact zX [x,u] (sn h2)
 have m1: -y<=fx (-b.lo.val):=by rw [fx_neg];generalize fx b.lo.val=u at *;exact zX [y,u] (sn k1)
 have m2:fx (-b.hi.val) <= -y:=by rw [fx_neg];generalize fx b.hi.val=u at *;exact zX [y,u] (sn k2)
 have i1:=inv_le (neg_ne y0) m1
 have i2:=inv_le (fx_p (show 0 < -b.hi.val by omega)) m2
 have p0:∀v:I64,(v=b.lo\/v=b.hi)->0 < -v.val:=by rintro v (rfl|rfl)<;>omega
 have lo:∀u v:I64,(u=a.lo\/u=a.hi)->(v=b.lo\/v=b.hi)->fx (zw a b).lo.val<=fx (-u.val)*(fx (-v.val))⁻¹:=fun u v hu hv=>le_trans (zer.2 (hc u v hu hv).1) (fx_div_lo (p0 v hv))
 have hi:∀u v:I64,(u=a.lo\/u=a.hi)->(v=b.lo\/v=b.hi)->fx (-u.val)*(fx (-v.val))⁻¹<=fx (zw a b).hi.val:=fun u v hu hv=>by
  have:=fx_div_hi (x:= -u.val) (p0 v hv)
  rw [Int.neg_neg] at this
  exact le_trans this (zer.2 (hc u v hu hv).2)
 rw [<- div_neg x y (ne_of_lt y0)]
 exact ⟨real_lo n2 n1 i1 i2 (lo _ _ (.inr rfl) (.inl rfl)) (lo _ _ (.inr rfl) (.inr rfl)) (lo _ _ (.inl rfl) (.inl rfl)) (lo _ _ (.inl rfl) (.inr rfl)),
  real_hi n2 n1 i1 i2 (hi _ _ (.inr rfl) (.inl rfl)) (hi _ _ (.inr rfl) (.inr rfl)) (hi _ _ (.inl rfl) (.inl rfl)) (hi _ _ (.inl rfl) (.inr rfl))⟩
theorem narrow_b {v:Int} (h:(narrow v).b=true):(narrow v).a.val=v /\ -9223372036854775808<=v/\v<=9223372036854775807:=by
 unfold narrow at h ⊢
 split at h
 ·rename_i hr;rw [if_pos hr];exact ⟨wi hr.1 hr.2,hr⟩
 ·cases h
theorem quo_lo' {a b:Int} (hb:0<b):fx (a*4294967296/b)<=zi a/zi b:=by
 have zb:0<zi b:=by rw [<- zi_0];exact zi_lt.2 hb
 rw [le_div zb]
 have:=fx_floor (p:=a*4294967296) hb
 unfold fx
 rw [zey a] at this
 generalize zi (a*4294967296/b)=q at *;generalize zi a=u at *;generalize zi b=v at *
 rw [show zi 4294967296=rat 4294967296 from rfl] at this
 exact zX [q,u,v] (kn (1/4294967296) (sn this))
theorem quo_hi' {a b:Int} (hb:0<b):zi a/zi b<=fx (a*4294967296/b+1):=by
 have zb:0<zi b:=by rw [<- zi_0];exact zi_lt.2 hb
 rw [div_le zb]
 have h1:a*4294967296<=(a*4294967296/b+1)*b:=by have:=Int.lt_ediv_add_one_mul_self (a*4294967296) hb;omega
 have:=zi_le.2 h1
 unfold fx
 rw [zey a,zey _ b] at this
 generalize zi (a*4294967296/b+1)=q at *;generalize zi a=u at *;generalize zi b=v at *
 rw [show zi 4294967296=rat 4294967296 from rfl] at this
 exact zX [q,u,v] (kn (1/4294967296) (sn this))
theorem quo_eq' {a b:Int} (hb:0<b) (h:a*4294967296%b=0):zi a/zi b<=fx (a*4294967296/b):=by
 have zb:0<zi b:=by rw [<- zi_0];exact zi_lt.2 hb
 rw [div_le zb]
 have h1:a*4294967296<=(a*4294967296/b)*b:=by
  have:=Int.mul_ediv_add_emod (a*4294967296) b
  rw [h,Int.mul_comm] at this;omega
 have:=zi_le.2 h1
 unfold fx
 rw [zey a,zey _ b] at this
 generalize zi (a*4294967296/b)=q at *;generalize zi a=u at *;generalize zi b=v at *
 rw [show zi 4294967296=rat 4294967296 from rfl] at this
 exact zX [q,u,v] (kn (1/4294967296) (sn this))
theorem end_b {a:I64} {c:Bool} (h:(zaA a c).b=true):c=true/\zaA a c=⟨a,true⟩/\zO a=true:=by
 rcases end_cases a c with e|⟨e,k⟩
 ·rw [e] at h;cases h
 ·refine ⟨?_,e,k⟩
  cases c
  ·rw [end_no] at e;cases e
  ·rfl
theorem In.quotient {a b:I64} (hb:0<b.val):In (zi a.val/zi b.val) (zQ a b):=by
 rw [q_F_spec]
 have hn:¬b.val<0:=by omega
 unfold QQ
 rw [if_neg hn]
 unfold QU
 cases h1:(FF a b).b
 ·exact In.whole _
 cases h2:(FC a b).b
 ·exact In.whole _
 simp only [cond_true]
 have f1:fx (FF a b).a.val<=zi a.val/zi b.val:=by
  unfold FF at h1 ⊢
  obtain ⟨e1,e2,e3⟩:=end_b h1
  rw [e2]
  simp only [MD,hb,if_true] at e1 ⊢
  have:=narrow_b e1
  rw [this.1]
  exact quo_lo' hb
 have f2:zi a.val/zi b.val<=fx (FC a b).a.val:=by
  unfold FC at h2 ⊢
  simp only [hb,if_true] at h2 ⊢
  cases hq:(narrow (a.val*4294967296/b.val)).b
  ·rw [hq] at h2;simp at h2
  have nb:=narrow_b hq
  simp only [hq,if_true] at h2 ⊢
  by_cases hz:a.val*4294967296%b.val=0
  ·simp only [hz,if_true] at h2 ⊢
   obtain ⟨e1,e2,e3⟩:=end_b h2
   rw [e2,nb.1]
   exact quo_eq' hb hz
  ·simp only [hz,if_false] at h2 ⊢
   obtain ⟨e1,e2,e3⟩:=end_b h2
   rw [e2]
   have ob:=ok_bd e3
   rw [nb.1] at ob ⊢
   by_cases hx:a.val*4294967296/b.val=9223372036854775807
   ·rw [hx] at ob;exact absurd ob (by decide)
   ·rw [wi (by omega) (by omega)]
    exact quo_hi' hb
 intro ok
 by_cases hm: -1152921504606846976<(FF a b).a.val/\(FF a b).a.val<=(FC a b).a.val/\(FC a b).a.val<1152921504606846976
 ·rw [zbT hm];exact ⟨f1,f2⟩
 ·rw [make_no hm,zbI] at ok;cases ok
theorem In.quot {n:I64} (q:Nat) (r:Rat) (hn:n.val=((q+1:Nat):Int):=by kernel_rfl) (hr:1/((q+1:Nat):Rat)=r:=by kernel_rfl):In (rat r) (zQ ⟨1,rfl⟩ n):=by
 have:=In.quotient (a:=⟨1,rfl⟩) (b:=n) (by omega)
 rw [hn,zi_nat,show zi ((⟨1,rfl⟩:I64)).val=1 from rfl] at this
 have e:(1:Re)/rat ((q+1:Nat):Rat)=rat r:=by
  rw [<- hr]
  have i:=inv_nat q
  have p:0<rat ((q+1:Nat):Rat):=nat_p (Nat.succ_pos q)
  refine eq_of_mul (ne_of_gt p) ?_
  rw [div_mul (ne_of_gt p),An.mul_comm,i]
 rwa [e] at this
theorem In.halve {x:Re} {a:Iv} (h:In x a):In (x/(1+An.sqrt (1+x*x))) (zeK a):=by
 simp only [zeK,t_spec_l07Halve,Tr.get]
 exact h.div (In.add In.one (In.sqrt (In.add In.one h.sqr)))
theorem In.arcS {x:Re} {a:Iv} (h:In x a):In (atan x) (zfp a):=by
 simp only [zfp,t_spec_ArcSeries,Tr.get,zcu]
 cases hi:zaP a ⟨⟨(-1073741824),rfl⟩,⟨1073741824,rfl⟩⟩
 ·exact In.whole _
 simp only [Bool.not_true,cfl]
 have hin:zf a=true /\ -1073741824<=a.lo.val/\a.hi.val<=1073741824:=by
  have h2:zf ⟨⟨-1073741824,rfl⟩,⟨1073741824,rfl⟩⟩=true:=(zbz _).2 (by decide)
  simp only [zaP,zdm,Tr.get,h2,Bool.not_true,cfl] at hi
  revert hi
  cases zf a<;>by_cases h1: -1073741824<=a.lo.val<;>simp [h1,ctr,cfl]
 obtain ⟨o,k1,k2⟩:=hin
 have hx:An.abs x<=rat (1/4):=by
  obtain ⟨h1,h2⟩:=h o
  have l1:=zer.2 k1
  have l2:=zer.2 k2
  have e:fx 1073741824=rat (1/4):=(show rat ((1073741824:Int):Rat)*rat (1/4294967296)=rat (1/4) from An.ring [])
  rw [fx_neg,e] at l1
  rw [e] at l2
  exact zfN (le_trans l1 h1) (le_trans h2 l2)
 have e:=atan_horner hx
 have:=(h.mul (In.sub (In.quot (n:=⟨1,rfl⟩) 0 (1/1)) (In.mul h.sqr (In.sub (In.quot (n:=⟨3,rfl⟩) 2 (1/3)) (In.mul h.sqr (In.sub (In.quot (n:=⟨5,rfl⟩) 4 (1/5)) (In.mul h.sqr (In.sub (In.quot (n:=⟨7,rfl⟩) 6 (1/7)) (In.mul h.sqr (In.sub (In.quot (n:=⟨9,rfl⟩) 8 (1/9)) (In.mul h.sqr (In.sub (In.quot (n:=⟨11,rfl⟩) 10 (1/11)) (In.mul h.sqr (In.sub (In.quot (n:=⟨13,rfl⟩) 12 (1/13)) (In.mul h.sqr (In.sub (In.quot (n:=⟨15,rfl⟩) 14 (1/15)) (In.mul h.sqr (In.sub (In.quot (n:=⟨17,rfl⟩) 16 (1/17)) (In.mul h.sqr (In.sub (In.quot (n:=⟨19,rfl⟩) 18 (1/19)) (In.mul h.sqr (In.quot (n:=⟨21,rfl⟩) 20 (1/21))))))))))))))))))))))).add (In.tiny e)
 generalize x*(rat (1/1)-x*x*(rat (1/3)-x*x*(rat (1/5)-x*x*(rat (1/7)-x*x*(rat (1/9)-x*x*(rat (1/11)-x*x*(rat (1/13)-x*x*(rat (1/15)-x*x*(rat (1/17)-x*x*(rat (1/19)-x*x*rat (1/21)))))))))))=u at *;generalize atan x=s at *
 rwa [show u+(s-u)=s from An.ring [u,s]] at this
theorem In.core {x:Re} {a:Iv} (h:In x a):In (atan x) (zcX a):=by
 simp only [zcX,t_spec_l07Core,Tr.get]
 have:=h.halve.halve.arcS.dbl.dbl
 rwa [<- atan_half,<- atan_half] at this
theorem atan_inv {x:Re} (h:0<x):atan x=hp-atan (1/x):=by
 have c:=atan_cos (1/x)
 have hq:0<1/x:=div_p (qp 1) h
 have p0:0<atan (1/x):=by
  have h2:=atan_mono (le_of_lt hq)
  rw [atan_zero] at h2
  rcases le_iff.1 h2 with h3|h3
  ·exact h3
  ·have:=atan_sc (1/x)
   rw [<- h3,sin_zero,cos_zero,An.mul_one] at this
   exact absurd (this▸hq) (lt_irrefl _)
 have p1:=atan_lt (1/x)
 refine (atan_unique ?_ ?_ ?_).symm
 ·generalize atan (1/x)=a at *;exact zfG [a,hp] (ppn (sp p1) (le_of_lt hp_p))
 ·generalize atan (1/x)=a at *;exact zfG [a,hp] p0
 ·rw [sin_hp_sub,cos_hp_sub,atan_sc]
  have e:=div_mul (x:=1) (ne_of_gt h)
  generalize cos (atan (1/x))=d at *;generalize 1/x=q at *
  exact eq_by [x,q,d] (congrArg (fun t=> -(d*t)) e: -(d*(q*x))= -(d*1))
theorem quarter_val1:zbk.lo.val= -6746518853/\zbk.hi.val=6746518853/\zf zbk=true:=by
 have e:zbk=⟨⟨-6746518853,rfl⟩,⟨6746518853,rfl⟩⟩:=by kernel_rfl
 rw [e];exact ⟨rfl,rfl,(zbz _).2 (by decide)⟩
theorem hp_fx:hp<=fx 6746518853:=by
 have:=(turn_real (k:=1) (by decide) (by decide)).2
 rw [qt_1] at this
 exact this
theorem In.quarter {x:Re} (h1: -hp<=x) (h2:x<=hp):In x zbk:=fun _=>by
 rw [quarter_val1.1,quarter_val1.2.1,fx_neg]
 have:=hp_fx
 generalize fx 6746518853=u at *
 exact ⟨zX [x,u,hp] (pn (sn this) (sn h1)),le_trans h2 this⟩
theorem atan_bd (x:Re): -hp<=atan x/\atan x<=hp:=⟨le_of_lt (atan_gt x),le_of_lt (atan_lt x)⟩
theorem In.atan_pos {n:I64} (h:0<=n.val):In (atan (fx n.val)) (zdl n)/\In (atan (fx n.val)) (zdM n)/\G_spec_AtanAt_p n=true:=by
 have hn:decide (n.val<0)=false:=by simp;omega
 have q:=In.quarter (atan_bd (fx n.val)).1 (atan_bd (fx n.val)).2
 simp only [zdl,t_spec_AtanAt,zdM,zfZ,G_spec_AtanAt_p,Tr.get,Tr.opt,hn,cfl]
 cases zbV n
 ·exact ⟨q,q,rfl⟩
 simp only [Bool.not_true,cfl]
 by_cases hg:n.val>4294967296
 ·simp only [hg,decide_true,ctr]
  have:In (atan (fx n.val)) (zR (zU ⟨1,rfl⟩) (zcX (zw (zm ⟨1,rfl⟩) (zH n)))):=by
   rw [atan_inv (fx_p (show 0<n.val by omega))]
   have t:=In.turn' (k:=⟨1,rfl⟩) (by decide) (by decide)
   rw [show ((⟨1,rfl⟩:I64)).val=1 from rfl,qt_1] at t
   exact t.sub (In.one.div In.point).core
  exact ⟨this,this,rfl⟩
 ·simp only [hg,decide_false,cfl]
  exact ⟨In.point.core,In.point.core,rfl⟩
theorem In.atanAt {n:I64}:In (atan (fx n.val)) (zdl n):=by
 by_cases h:0<=n.val
 ·exact (In.atan_pos h).1
 have hn:decide (n.val<0)=true:=by simp;omega
 have q:=In.quarter (atan_bd (fx n.val)).1 (atan_bd (fx n.val)).2
 simp only [zdl,t_spec_AtanAt,Tr.get,hn,ctr]
 cases hf:zbV n
 ·exact q
 have hb:=(fix_iff n).1 hf
 have en:(Rng.w .i64 (0-n.val)).val= -n.val:=by rw [wi (by omega) (by omega)];omega
 obtain ⟨_,h2,h3⟩:=In.atan_pos (n:= .w .i64 (0-n.val)) (by rw [en];omega)
 rw [en,fx_neg,atan_neg] at h2
 simp only [Bool.not_true,cfl,h3,ctr]
 have:=h2.neg
 rwa [show - - atan (fx n.val)=atan (fx n.val) from by generalize atan (fx n.val)=u;exact An.ring [u]] at this
theorem In.atan {x:Re} {a:Iv} (h:In x a):In (An.atan x) (zas a):=by
 rw [atanI_spec,siw_eq]
 cases ha:zf a
 ·exact In.quarter (atan_bd x).1 (atan_bd x).2
 simp only [Bool.not_true,cfl]
 obtain ⟨h1,h2⟩:=h ha
 exact In.between (In.atanAt.hull_l) (In.atanAt.hull_r) (atan_mono h1) (atan_mono h2)
end Go.Proofs.YtfcjhkkpbnobhaaGreat.Nc
namespace Go.Proofs.YtfcjhkkpbnobhaaGreat.Nc
open Go Go.Proofs.YtfcjhkkpbnobhaaGreat.An
open Go.Proofs.YtfcjhkkpbnobhaaGreat.Ev hiding mn mul_bd neg_eq sq_lt sub_eq
structure Rv where
 x:Re
 y:Re
 z:Re
theorem less_1 {a b:Iv} (h:(F_spec_LessI a b).val=1):zf a=true/\zf b=true/\a.hi.val<b.lo.val:=by
 simp only [F_spec_LessI,t_spec_LessI,Tr.get] at h
 cases ha:zf a
 ·rw [ha] at h;cases h
 cases hb:zf b
 ·rw [ha,hb] at h;cases h
 rw [ha,hb] at h
 simp only [Bool.not_true,cfl] at h
 by_cases c:a.hi.val<b.lo.val
 ·exact ⟨rfl,rfl,c⟩
 ·by_cases d:a.lo.val>=b.hi.val
  ·simp only [c,d,decide_true,decide_false,ctr,cfl] at h;cases h
  ·simp only [c,d,decide_false,cfl] at h;cases h
theorem not_less {x y:Re} {a b:Iv} (h:In x a) (k:In y b) (l:y<=x):¬(F_spec_LessI a b).val=1:=fun e=>by
 obtain ⟨oa,ob,c⟩:=less_1 e
 have h1:=(h oa).2
 have h2:=(k ob).1
 exact absurd (le_trans h2 (le_trans l h1)) (An.not_le.2 (fx_lt.2 c))
end Go.Proofs.YtfcjhkkpbnobhaaGreat.Nc
namespace Go.Proofs.YtfcjhkkpbnobhaaGreat.Nc
open Go Go.Proofs.YtfcjhkkpbnobhaaGreat.An
open Go.Proofs.YtfcjhkkpbnobhaaGreat.Ev hiding mn mul_bd neg_eq sq_lt sub_eq
theorem In.overlap {x:Re} {a b:Iv} (h:In x a) (k:In x b):zav a b=true:=by
 simp only [zav,zeB,za9,zd3,Tr.get]
 cases ha:zf a
 ·cases hb:zf b<;>rfl
 cases hb:zf b
 ·rfl
 obtain ⟨h1,h2⟩:=h ha
 obtain ⟨k1,k2⟩:=k hb
 have l1:=zer.1 (le_trans h1 k2)
 have l2:=zer.1 (le_trans k1 h2)
 have b1:=(zbz _).1 ha
 have b2:=(zbz _).1 hb
 have m1:=max_l a.lo b.lo
 have m2:=min_l a.hi b.hi
 have n:¬(zD a.lo b.lo).val>(zJ a.hi b.hi).val:=by omega
 simp only [Bool.not_true,cfl,n,decide_false]
end Go.Proofs.YtfcjhkkpbnobhaaGreat.Nc
namespace Go.Proofs.YtfcjhkkpbnobhaaGreat.Nc
open Go Go.Proofs.YtfcjhkkpbnobhaaGreat.An
open Go.Proofs.YtfcjhkkpbnobhaaGreat.Ev hiding mn mul_bd neg_eq sq_lt sub_eq
theorem ok_iff {p:Point}:zcG p=true↔(-900000000<=p.lat.val/\p.lat.val<=900000000)/\(-1799999999<=p.lon.val/\p.lon.val<=1800000000):=by
 simp only [zcG,t_spec_l11Ok,Tr.get,zdg]
 by_cases h: -900000000<=p.lat.val/\p.lat.val<=900000000
 ·simp [h]
 ·simp only [h,decide_false,cfl,false_and,Bool.false_eq_true]
end Go.Proofs.YtfcjhkkpbnobhaaGreat.Nc
namespace Go.Proofs.YtfcjhkkpbnobhaaGreat.Nc
open Go Go.Proofs.YtfcjhkkpbnobhaaGreat.An
open Go.Proofs.YtfcjhkkpbnobhaaGreat.Ev hiding mn mul_bd neg_eq sq_lt sub_eq
def ea (e:Ell):Re:=zi e.a.val/zi 1000
def ef (e:Ell):Re:=zi e.num.val/zi e.den.val
def ee (e:Ell):Re:=ef e*(zi 2-ef e)
theorem ell_bd {e:Ell} (h:zaB e=true):(1000<=e.a.val/\e.a.val<=100000000000)/\(1<=e.den.val/\e.den.val<=1000000000000)/\0<=e.num.val/\e.num.val*100<=e.den.val:=by
 simp only [zaB,t_spec_l12Ok,Tr.get,zdg] at h
 by_cases c1:1000<=e.a.val/\e.a.val<=100000000000
 ·by_cases c2:1<=e.den.val/\e.den.val<=1000000000000
  ·by_cases c3:e.num.val>=0
   ·simp only [c1,c2,c3,and_self,decide_true,ctr] at h
    have t:Int.tdiv e.den.val 100=e.den.val/100:=Int.tdiv_eq_ediv_of_nonneg (by omega)
    rw [t] at h
    have b:(Rng.w .i64 (e.den.val/100)).val=e.den.val/100:=wi (by omega) (by omega)
    rw [b] at h
    have:=of_decide_eq_true h
    omega
   ·simp only [c1,c2,c3,and_self,decide_true,decide_false,ctr,cfl] at h;cases h
  ·simp only [c1,c2,and_self,decide_true,decide_false,ctr,cfl] at h;cases h
 ·simp only [c1,decide_false,cfl] at h;cases h
theorem In.flat {e:Ell} (h:zaB e=true):In (ef e) (zc8 e):=by
 simp only [zc8,t_spec_FlatteningI,Tr.get,h,Bool.not_true,cfl]
 exact In.quotient (by have:=(ell_bd h).2.1.1;omega)
theorem In.ecc {e:Ell} (h:zaB e=true):In (ee e) (F_spec_EccI e):=by
 simp only [F_spec_EccI,t_spec_EccI,Tr.get]
 exact (In.flat h).mul ((In.int (n:=⟨2,rfl⟩) (by decide)).sub (In.flat h))
theorem ef_bd {e:Ell} (h:zaB e=true):0<=ef e/\ef e<=rat (1/100):=by
 obtain ⟨_,⟨d1,_⟩,n0,n1⟩:=ell_bd h
 have p:(0:Re)<zi e.den.val:=zi_lt.2 (show (0:Int)<e.den.val by omega)
 refine ⟨div_n (zi_nn n0) p,(div_le p).2 ?_⟩
 have:=zi_le.2 n1
 rw [zey] at this
 rw [show zi 100=rat 100 from rfl] at this
 generalize zi e.num.val=x at *;generalize zi e.den.val=y at *
 exact zX [x,y] (kn (1/100) (sn this))
theorem ee_bd {e:Ell} (h:zaB e=true):0<=ee e/\ee e<=rat (1/50):=by
 obtain ⟨f0,f1⟩:=ef_bd h
 unfold ee
 rw [show zi 2=rat 2 from rfl]
 generalize ef e=f at *
 have g:0<=rat 2-f:=zX [f] (pn (sn f1) (qn (199/100)))
 refine ⟨An.mn f0 g,?_⟩
 exact zX [f] (pn (kn 2 (sn f1)) (sqn f))
def ew (e:Ell) (t:Re):Re:=1-ee e*(An.sin t*An.sin t)
def en (e:Ell) (t:Re):Re:=ea e/An.sqrt (ew e t)
def ph (p:Ev.Place):Re:=zi p.h.val/zi 1000
def cr (e:Ell) (p:Ev.Place):Re:=(en e (Nc.rad p.pt.lat.val)+ph p)*An.cos (Nc.rad p.pt.lat.val)
def cz (e:Ell) (p:Ev.Place):Re:=(en e (Nc.rad p.pt.lat.val)*(1-ee e)+ph p)*An.sin (Nc.rad p.pt.lat.val)
def cv (e:Ell) (p:Ev.Place):Rv:=⟨cr e p*An.cos (Nc.rad p.pt.lon.val),cr e p*An.sin (Nc.rad p.pt.lon.val),cz e p⟩
theorem In.sinAt {n:I64}:In (An.sin (fx n.val)) (zb3 n):=by
 simp only [zb3,t_spec_SinAt,Tr.get]
 have:=In.at (n:=n) (t:=⟨0,rfl⟩) (by decide)
 rwa [show qt (⟨0,rfl⟩:I64).val=0 from qt_0,An.add_zero] at this
end Go.Proofs.YtfcjhkkpbnobhaaGreat.Nc
namespace Go.Proofs.YtfcjhkkpbnobhaaGreat.Nc
open Go Go.Proofs.YtfcjhkkpbnobhaaGreat.An
open Go.Proofs.YtfcjhkkpbnobhaaGreat.Ev hiding mn mul_bd neg_eq sq_lt sub_eq
theorem rad_q:Nc.rad 900000000=hp:=by
 show rat ((900000000:Int):Rat)*(hp*rat (1/900000000))=hp
 rw [show ((900000000:Int):Rat)=900000000 from rfl];exact An.ring [hp]
theorem rad_up {a b:Int} (h:a<=b):Nc.rad a<=Nc.rad b:=by
 unfold Nc.rad
 have k:=zi_le.2 h
 have p:=hp_p
 generalize zi a=x at *;generalize zi b=y at *
 exact zX [x,y,hp] (An.mn (sn k) (kn (1/900000000) (le_of_lt p)))
theorem lat_b {p:Point} (h:zcG p=true): -hp<=Nc.rad p.lat.val/\Nc.rad p.lat.val<=hp:=by
 obtain ⟨⟨a,b⟩,_⟩:=ok_iff.1 h
 have h1:=rad_up a
 have h2:=rad_up b
 rw [rad_q] at h2
 rw [rad_neg,rad_q] at h1
 exact ⟨h1,h2⟩
theorem fx_one:fx 1=rat (1/4294967296):=one_mul _
theorem In.make {x:Re} {a b:I64} (h:fx a.val<=x/\x<=fx b.val):In x (z8 a b):=fun ok=>by
 by_cases k: -1152921504606846976<a.val/\a.val<=b.val/\b.val<1152921504606846976
 ·rw [zbT k];exact h
 ·rw [make_no k] at ok;exact absurd ok (by rw [zbI];decide)
theorem In.ends8 {x:Re} {a b:Iv} (h1:zf a=true->zf b=true->fx a.lo.val<=x/\x<=fx b.hi.val):In x (zbO a b):=by
 rw [<- Ev.ends8]
 cases ha:zf a
 ·exact In.whole x
 ·cases hb:zf b
  ·exact In.whole x
  ·exact In.make (h1 ha hb)
theorem In.hlf {x:Re} {a:Iv} (h:In x a):In (x*rat (1/2)) (ze0 a):=by
 simp only [ze0,t_spec_HalfI,Tr.get]
 cases ha:zf a
 ·exact In.whole _
 ·simp only [Bool.not_true,cfl]
  have b:=(zbz a).1 ha
  obtain ⟨h1,h2⟩:=h ha
  have f1:a.lo.val.fdiv 2=a.lo.val/2:=Int.fdiv_eq_ediv_of_nonneg _ (by decide)
  have e1:(Rng.w .i64 (a.hi.val+1)).val=a.hi.val+1:=wi (by omega) (by omega)
  refine In.make ?_
  rw [e1]
  have f2:(a.hi.val+1).fdiv 2=(a.hi.val+1)/2:=Int.fdiv_eq_ediv_of_nonneg _ (by decide)
  rw [f1,f2,wi (n:=a.lo.val/2) (by omega) (by omega),wi (n:=(a.hi.val+1)/2) (by omega) (by omega)]
  have g1:fx (2*(a.lo.val/2))<=fx a.lo.val:=zer.2 (by omega)
  have g2:fx a.hi.val<=fx (2*((a.hi.val+1)/2)):=zer.2 (by omega)
  rw [show 2*(a.lo.val/2)=a.lo.val/2+a.lo.val/2 by omega,fx_add] at g1
  rw [show 2*((a.hi.val+1)/2)=(a.hi.val+1)/2+(a.hi.val+1)/2 by omega,fx_add] at g2
  generalize fx (a.lo.val/2)=p at *;generalize fx ((a.hi.val+1)/2)=q at *
  have k1:=le_trans g1 h1
  have k2:=le_trans h2 g2
  exact ⟨zX [p,x] (kn (1/2) (sn k1)),zX [q,x] (kn (1/2) (sn k2))⟩
theorem In.meetI {x:Re} {a b:Iv} (h:In x a) (k:In x b):In x (za9 a b).a/\(za9 a b).b=true:=by
 simp only [za9,zd3,Tr.get]
 cases ha:zf a
 ·cases hb:zf b
  ·simp only [Bool.not_false,Bool.and_self,Bool.and_true,Bool.true_and,ctr];exact ⟨In.whole x,trivial⟩
  ·simp only [Bool.not_false,Bool.not_true,Bool.and_false,cfl,ctr];exact ⟨k,trivial⟩
 ·cases hb:zf b
  ·simp only [Bool.not_false,Bool.not_true,Bool.false_and,cfl,ctr];exact ⟨h,trivial⟩
  ·obtain ⟨h1,h2⟩:=h ha
   obtain ⟨k1,k2⟩:=k hb
   have m1:=max_l a.lo b.lo
   have m2:=min_l a.hi b.hi
   have l1:fx (zD a.lo b.lo).val<=x:=by
    rcases Int.le_total a.lo.val b.lo.val with c|c
    ·rw [show (zD a.lo b.lo).val=b.lo.val by omega];exact k1
    ·rw [show (zD a.lo b.lo).val=a.lo.val by omega];exact h1
   have l2:x<=fx (zJ a.hi b.hi).val:=by
    rcases Int.le_total a.hi.val b.hi.val with c|c
    ·rw [show (zJ a.hi b.hi).val=a.hi.val by omega];exact h2
    ·rw [show (zJ a.hi b.hi).val=b.hi.val by omega];exact k2
   have hlt:¬(zD a.lo b.lo).val>(zJ a.hi b.hi).val:=by
    have:=zer.1 (le_trans l1 l2);omega
   simp only [hlt,decide_false,Bool.not_true,Bool.and_self,Bool.false_and,cfl]
   exact ⟨fun _=>⟨l1,l2⟩,trivial⟩
theorem In.widen {x y:Re} {a:Iv} (h:In x a) (k:An.abs (y-x)<=rat (1/4294967296)):In y (zbt a ⟨1,rfl⟩):=by
 simp only [zbt,t_spec_l08Widen,Tr.get]
 cases ha:zf a
 ·exact In.whole y
 ·simp only [Bool.not_true,cfl]
  obtain ⟨h1,h2⟩:=h ha
  obtain ⟨k1,k2⟩:=zd8 k
  have b:=(zbz _).1 ha
  refine In.make ?_
  rw [wi (n:=a.lo.val-1) (by omega) (by omega),wi (n:=a.hi.val+1) (by omega) (by omega),fx_sub,fx_add,fx_one]
  generalize fx a.lo.val=p at *;generalize fx a.hi.val=q at *;generalize rat (1/4294967296)=r at *
  exact ⟨zX [x,y,p,r] (pn (sn h1) (sn k1)),zX [x,y,q,r] (pn (sn h2) (sn k2))⟩
theorem log2_real {k:Int} (h:0<=k):fx (k*1598288580650331957/536870912)<=zi k*log 2/\zi k*log 2<=fx (0-(0-k)*1598288580650331958/536870912):=by
 have a:=fx_floor (p:=k*1598288580650331957) (d:=536870912) (by decide)
 have b:=fx_floor (p:=(0-k)*1598288580650331958) (d:=536870912) (by decide)
 have k0:=zi_nn h
 rw [show (0:Int)-(0-k)*1598288580650331958/536870912= -((0-k)*1598288580650331958/536870912) by omega,fx_neg]
 unfold fx
 rw [zey] at a b
 rw [show zi (0-k)= - zi k from by rw [zi_sub,zi_0];exact An.ring [zi k]] at b
 generalize zi (k*1598288580650331957/536870912)=u at *
 generalize zi ((0-k)*1598288580650331958/536870912)=v at *
 generalize zi k=K at *
 have a':u*rat 536870912<=K*rat 1598288580650331957:=a
 have b':v*rat 536870912 <= -K*rat 1598288580650331958:=b
 have l1:=log2_lo
 have l2:=log2_hi
 generalize log 2=L at *
 constructor
 ·exact zX [u,K,L] (pn (kn (1/536870912/4294967296) (sn a')) (mn k0 (sn l1)))
 ·exact zX [v,K,L] (pn (kn (1/536870912/4294967296) (sn b')) (mn k0 (sn l2)))
theorem log2_p {k:I64} (h:0<=k.val) (h':k.val<=64):∃x:Iv,(zbA k).opt=some x/\In (zi k.val*log 2) x:=by
 have hi:zah k ⟨(-64),rfl⟩ ⟨64,rfl⟩=true:=by rw [zdg];simp;omega
 have hn:decide (k.val<0)=false:=by simp;omega
 obtain ⟨e1,e2,b1,b2,b3⟩:=log_lo h h'
 have v1:(Rng.w .i64 (k.val*1598288580650331957/536870912)).val=k.val*1598288580650331957/536870912:=wi (by omega) (by omega)
 have v2:(Rng.w .i64 ((0-k.val)*1598288580650331958/536870912)).val=(0-k.val)*1598288580650331958/536870912:=wi (by omega) (by omega)
 have v3:(Rng.w .i64 (0-(0-k.val)*1598288580650331958/536870912)).val=0-(0-k.val)*1598288580650331958/536870912:=wi (by omega) (by omega)
 refine ⟨z8 (.w .i64 (k.val*1598288580650331957/536870912)) (.w .i64 (0-(Rng.w .i64 ((0-k.val)*1598288580650331958/536870912)).val)),?_,In.make ?_⟩
 ·simp only [zbA,Tr.opt,hi,hn,Bool.not_true,cond_false,e1,e2]
 ·rw [v2,v1,v3];exact log2_real h
theorem In.log2 {k:I64} (h: -64<=k.val) (h':k.val<=64):In (zi k.val*log 2) (zaG k):=by
 have hi:zah k ⟨(-64),rfl⟩ ⟨64,rfl⟩=true:=by rw [zdg];simp;omega
 by_cases hn:k.val<0
 ·have e1:(Rng.w .i64 (0-k.val)).val=0-k.val:=wi (by omega) (by omega)
  obtain ⟨x,h1,h2⟩:=log2_p (k:= .w .i64 (0-k.val)) (by omega) (by omega)
  have g1:zdc (.w .i64 (0-k.val))=true:=by unfold zdc;rw [h1];rfl
  have f1:F_spec_LogTwoI_p (.w .i64 (0-k.val))=x:=Tr.zar h1
  have hd:decide (k.val<0)=true:=by simpa using hn
  have e:zaG k=zaE x:=Tr.zar (by simp only [zcS,Tr.opt,hi,hd,g1,f1,cond_true,cond_false,Bool.not_true])
  rw [e]
  have:=h2.neg
  rw [e1,zi_sub,zi_0] at this
  rw [show zi k.val*log 2= -((0-zi k.val)*log 2) from by generalize zi k.val=a;generalize log 2=b;exact An.ring [a,b]]
  exact this
 ·obtain ⟨x,h1,h2⟩:=log2_p (k:=k) (by omega) (by omega)
  have hd:decide (k.val<0)=false:=by simpa using hn
  have e:zaG k=x:=Tr.zar (by
   simp only [zbA,Tr.opt,hd] at h1
   simp only [zcS,Tr.opt,hd]
   exact h1)
  rw [e];exact h2
theorem In.l08One:In 1 zab:=by rw [<- one_eq];exact In.one
def logP (q:Iv):Iv:=zG (zQ ⟨1,rfl⟩ ⟨1,rfl⟩) (zu q (zG (zQ ⟨1,rfl⟩ ⟨3,rfl⟩) (zu q (zG (zQ ⟨1,rfl⟩ ⟨5,rfl⟩) (zu q (zG (zQ ⟨1,rfl⟩ ⟨7,rfl⟩) (zu q (zG (zQ ⟨1,rfl⟩ ⟨9,rfl⟩) (zu q (zQ ⟨1,rfl⟩ ⟨11,rfl⟩))))))))))
theorem logTail_val (m:Iv) (e:I64):logTail m e=zG (zaG e) (zbt (zu (zu (zm ⟨2,rfl⟩) (zw (zR m zab) (zG m zab))) (logP (zaW (zw (zR m zab) (zG m zab))))) ⟨1,rfl⟩):=rfl
theorem In.q1:In (rat (1/1)) (zQ ⟨1,rfl⟩ ⟨1,rfl⟩):=In.quot 0 (1/1)
theorem In.q3:In (rat (1/3)) (zQ ⟨1,rfl⟩ ⟨3,rfl⟩):=In.quot 2 (1/3)
theorem In.q5:In (rat (1/5)) (zQ ⟨1,rfl⟩ ⟨5,rfl⟩):=In.quot 4 (1/5)
theorem In.q7:In (rat (1/7)) (zQ ⟨1,rfl⟩ ⟨7,rfl⟩):=In.quot 6 (1/7)
theorem In.q9:In (rat (1/9)) (zQ ⟨1,rfl⟩ ⟨9,rfl⟩):=In.quot 8 (1/9)
theorem In.q11:In (rat (1/11)) (zQ ⟨1,rfl⟩ ⟨11,rfl⟩):=In.quot 10 (1/11)
theorem In.logP {q:Re} {Q:Iv} (hs:In q Q):In (rat (1/1)+q*(rat (1/3)+q*(rat (1/5)+q*(rat (1/7)+q*(rat (1/9)+q*rat (1/11)))))) (logP Q):=
 In.q1.add (hs.mul (In.q3.add (hs.mul (In.q5.add (hs.mul (In.q7.add (hs.mul (In.q9.add (hs.mul In.q11)))))))))
theorem In.logTail {μ:Re} {m:Iv} {E:I64} (hm:In μ m) (h1:rat (3/4)<=μ) (h2:μ<=rat (3/2)) (e1: -64<=E.val) (e2:E.val<=64):In (zi E.val*log 2+log μ) (logTail m E):=by
 have hp:0<μ:=lt_of_lt_of_le (qp (3/4)) h1
 have hq:0<μ+1:=ppn hp (qn 1)
 have ez:(μ-1)/(μ+1)*(μ+1)=μ-1:=div_mul (ne_of_gt hq)
 have zb:An.abs ((μ-1)/(μ+1))<=rat (1/5):=by
  refine An.zfN ?_ ?_
  ·rw [le_div hq];exact zX [μ] (pn (kn (6/5) (sn h1)) (qn (1/10)))
  ·rw [div_le hq];exact zX [μ] (kn (4/5) (sn h2))
 have hz:In ((μ-1)/(μ+1)) (zw (zR m zab) (zG m zab)):=(hm.sub In.l08One).div (hm.add In.l08One)
 have near:=log_near hp ez zb
 rw [logTail_val]
 generalize zw (zR m zab) (zG m zab)=Z at *
 generalize (μ-1)/(μ+1)=z at *
 have hs:=hz.sqr
 generalize zaW Z=Q at *
 have h2:In (2*z) (zu (zm ⟨2,rfl⟩) Z):=(In.int (n:=⟨2,rfl⟩) (by decide)).mul hz
 exact (In.log2 e1 e2).add ((h2.mul (In.logP hs)).widen near)
theorem In.logAt {n:I64} (hn:1<=n.val):In (log (fx n.val)) (zed n):=by
 by_cases hn2:n.val<=1152921504606846976
 ·obtain ⟨m,E,⟨k,k1,hk,b1,b2⟩,e⟩:=logAt_val ⟨hn,hn2⟩
  rw [e]
  have hp2:=pow2_p k
  have hpi:(0:Int)<2^k:=Int.pow_pos (by decide)
  have fp:0<fx n.val:=fx_p (by omega)
  have c1:rat (3/4)=fx 3221225472:=by
   show rat (3/4)=rat 3221225472*rat (1/4294967296)
   exact An.ring []
  have c2:rat (3/2)=fx 6442450944:=by
   show rat (3/2)=rat 6442450944*rat (1/4294967296)
   exact An.ring []
  have l2:=log_pow2 k
  rcases hk with ⟨hE,lo,hi⟩|⟨hE,lh,lo⟩
  ·have ed:fx n.val/zi (2^k)*zi (2^k)=fx n.val:=div_mul (ne_of_gt hp2)
   have hmu:0<fx n.val/zi (2^k):=div_p fp hp2
   have f1:=fx_floor (p:=n.val) (d:=2^k) hpi
   have f2:=fx_floor (p:= -n.val) (d:=2^k) hpi
   have g1:fx m.lo.val<=fx n.val/zi (2^k):=by
    rw [lo,le_div hp2];unfold fx
    generalize zi (n.val/2^k)=a at *;generalize zi n.val=b at *;generalize zi (2^k)=c at *
    exact zX [a,b,c] (kn (1/4294967296) (sn f1))
   have g2:fx n.val/zi (2^k)<=fx m.hi.val:=by
    rw [hi,div_le hp2,fx_neg];unfold fx
    rw [zi_neg] at f2
    generalize zi (-n.val/2^k)=a at *;generalize zi n.val=b at *;generalize zi (2^k)=c at *
    exact zX [a,b,c] (kn (1/4294967296) (sn f2))
   have u:fx n.val/zi (2^k)<=rat (3/2):=by
    have:n.val<6442450944*2^k:=by
     rw [lo] at b2
     exact (Int.ediv_lt_iff_lt_mul hpi).1 b2
    rw [c2,div_le hp2]
    have:=zi_le.2 (Int.le_of_lt this)
    rw [zey] at this
    unfold fx
    generalize zi n.val=b at *;generalize zi (2^k)=c at *;generalize zi 6442450944=d at *
    exact zX [b,c,d] (kn (1/4294967296) (sn this))
   have key:=In.logTail (μ:=fx n.val/zi (2^k)) (m:=m) (E:=E) (fun _=>⟨g1,g2⟩) (by rw [c1];exact le_trans (zer.2 b1) g1) u (by omega) (by omega)
   rw [log_div fp hp2,l2,hE] at key
   rw [show log (fx n.val)=zi k*log 2+(log (fx n.val)-zi k*log 2) from by generalize log (fx n.val)=a;generalize log 2=b;generalize zi (k:Int)=c;exact An.ring [a,b,c]]
   exact key
  ·have hmu:0<fx n.val*zi (2^k):=mp fp hp2
   have ev:fx m.lo.val=fx n.val*zi (2^k):=by
    rw [lo];unfold fx;rw [zey]
    generalize zi n.val=b;generalize zi (2^k)=c
    exact An.ring [b,c]
   have key:=In.logTail (μ:=fx n.val*zi (2^k)) (m:=m) (E:=E) (fun _=>by rw [<- lh,ev];exact ⟨le_refl _,le_refl _⟩) (by rw [c1,<- ev];exact zer.2 b1) (by rw [c2,<- ev];exact zer.2 (by omega)) (by omega) (by omega)
   rw [log_mul fp hp2,l2,hE,zi_neg] at key
   rw [show log (fx n.val)= -zi k*log 2+(log (fx n.val)+zi k*log 2) from by generalize log (fx n.val)=a;generalize log 2=b;generalize zi (k:Int)=c;exact An.ring [a,b,c]]
   exact key
 ·rw [logAt_whole (by omega)];exact In.whole _
theorem logAt_ok1 {n:I64} (h:zf (zed n)=true):1<=n.val:=by
 by_cases k:1<=n.val/\n.val<=1152921504606846976
 ·exact k.1
 ·rw [logAt_whole k,zbI] at h;cases h
theorem In.log {x:Re} {a:Iv} (h:In x a):In (An.log x) (zfa a):=by
 simp only [zfa,t_spec_LogI,Tr.get]
 cases ha:zf a
 ·exact In.whole _
 ·simp only [Bool.not_true,cfl]
  obtain ⟨h1,h2⟩:=h ha
  refine In.ends8 fun o1 o2=>?_
  have n1:=logAt_ok1 o1
  have p1:0<fx a.lo.val:=fx_p (by omega)
  have b:=(zbz a).1 ha
  exact ⟨le_trans (In.logAt n1 o1).1 (log_mono p1 h1),le_trans (log_mono (lt_of_lt_of_le p1 h1) h2) (In.logAt (by omega) o2).2⟩
theorem atanh1_val {n:I64} (h0:0<=n.val) (h:n.val<4294967296):zbB n=ze0 (zfa (zw ⟨.w .i64 (4294967296+n.val),.w .i64 (4294967296+n.val)⟩ ⟨.w .i64 (4294967296-n.val),.w .i64 (4294967296-n.val)⟩)):=by
 have hU:¬n.val>=4294967296:=by omega
 simp only [zbB,zdH,Tr.get,halfI_eq,logI_eq,divI_F,zaU,hU,decide_false,cfl,at_eq,zH,zeT]
theorem In.atanh1 {n:I64} (h0:0<=n.val):In (ath (fx n.val)) (zbB n):=by
 by_cases h:n.val<4294967296
 ·rw [atanh1_val h0 h]
  have e1:(Rng.w .i64 (4294967296+n.val)).val=4294967296+n.val:=wi (by omega) (by omega)
  have e2:(Rng.w .i64 (4294967296-n.val)).val=4294967296-n.val:=wi (by omega) (by omega)
  have i1:=In.point (n:= .w .i64 (4294967296+n.val))
  have i2:=In.point (n:= .w .i64 (4294967296-n.val))
  have key:=(i1.div i2).log.hlf
  rw [e1,e2] at key
  have p1:0<fx (4294967296+n.val):=fx_p (by omega)
  have p2:0<fx (4294967296-n.val):=fx_p (by omega)
  rw [log_div p1 p2,fx_add,fx_sub,fx_1] at key
  exact key
 ·have hU:n.val>=4294967296:=by omega
  simp only [zbB,zdH,Tr.get,hU,decide_true,ctr,zaU]
  exact In.whole _
theorem atanh1_lt {n:I64} (h:zf (zbB n)=true):n.val<4294967296:=by
 by_cases hU:n.val>=4294967296
 ·simp only [zbB,zdH,Tr.get,hU,decide_true,ctr,zaU,zbI] at h
  cases h
 ·omega
theorem In.atanhN {n:I64} (hb: -1152921504606846976<n.val):In (ath (fx n.val)) (zaM n ⟨⟩)/\(zf (zaM n ⟨⟩)=true-> -4294967296<n.val/\n.val<4294967296):=by
 by_cases hn:n.val<0
 ·have hd:decide (n.val<0)=true:=by simpa using hn
  have e1:(Rng.w .i64 (0-n.val)).val=0-n.val:=wi (by omega) (by omega)
  simp only [zaM,zcb,Tr.get,hd,ctr,Ev.neg_eq]
  have k:=(In.atanh1 (n:= .w .i64 (0-n.val)) (by omega)).neg
  rw [e1,fx_sub,fx_0,show (0:Re)-fx n.val= - fx n.val from by generalize fx n.val=a;exact An.ring [a],ath_neg] at k
  refine ⟨?_,fun ok=>?_⟩
  ·rw [show ath (fx n.val)= - -ath (fx n.val) from by generalize ath (fx n.val)=a;exact An.ring [a]];exact k
  ·have:=atanh1_lt (negI_val ok).1
   omega
 ·have hd:decide (n.val<0)=false:=by simpa using hn
  simp only [zaM,zcb,Tr.get,hd,cfl]
  exact ⟨In.atanh1 (by omega),fun ok=>by have:=atanh1_lt ok;omega⟩
theorem atanhI_val (x:Iv):F_spec_AtanhI x=bif !zf x then zk else zbO (zaM x.lo ⟨⟩) (zaM x.hi ⟨⟩):=by
 refine Tr.zar ?_
 simp only [t_spec_AtanhI,Tr.opt]
 cases h:zf x
 ·rfl
 have hb:=(zbz x).1 h
 have a1:=atanh_n x.lo (by omega)
 have a2:=atanh_n x.hi (by omega)
 have g1:zb5 x.lo=true:=by unfold zb5;rw [a1];rfl
 have g2:zb5 x.hi=true:=by unfold zb5;rw [a2];rfl
 have f1:zeJ x.lo=_:=Tr.zar a1
 have f2:zeJ x.hi=_:=Tr.zar a2
 simp only [Bool.not_true,cond_false,cond_true,g1,g2,f1,f2]
theorem In.atanh {x:Re} {a:Iv} (h:In x a):In (ath x) (F_spec_AtanhI a):=by
 rw [atanhI_val]
 cases ha:zf a
 ·exact In.whole _
 ·obtain ⟨h1,h2⟩:=h ha
  have b:=(zbz a).1 ha
  obtain ⟨i1,j1⟩:=In.atanhN (n:=a.lo) (by omega)
  obtain ⟨i2,j2⟩:=In.atanhN (n:=a.hi) (by omega)
  refine In.ends8 fun o1 o2=>?_
  have c1:=(j1 o1).1
  have c2:=(j2 o2).2
  have m1: -1<fx a.lo.val:=by rw [<- fx_m1];exact fx_lt.2 c1
  have m2:fx a.hi.val<1:=by rw [<- fx_1];exact fx_lt.2 c2
  exact ⟨le_trans (i1 o1).1 (ath_mono m1 h1 (lt_of_le_of_lt h2 m2)),le_trans (ath_mono (lt_of_lt_of_le m1 h1) h2 m2) (i2 o2).2⟩
theorem In.circle {n:I64} (h1: -4294967296<=n.val) (h2:n.val<=4294967296):In (An.sqrt (1-fx n.val*fx n.val)) (zeM n):=by
 have e1:(Rng.w .i64 (4294967296-n.val)).val=4294967296-n.val:=wi (by omega) (by omega)
 have e2:(Rng.w .i64 (4294967296+n.val)).val=4294967296+n.val:=wi (by omega) (by omega)
 have hi:zah n ⟨(-4294967296),rfl⟩ ⟨4294967296,rfl⟩=true:=by rw [zdg];simp;omega
 obtain ⟨q,f1,f2,f3,f4,f5⟩:=sf_val (.w .i64 (4294967296-n.val)) (.w .i64 (4294967296+n.val)) (by omega) (by omega)
 rw [e1,e2] at f4 f5
 have key:1-fx n.val*fx n.val=zi ((4294967296-n.val)*(4294967296+n.val))*rat (1/18446744073709551616):=by
  rw [zey,zi_sub,zi_add];unfold fx
  rw [show zi 4294967296=rat 4294967296 from rfl]
  generalize zi n.val=a
  exact An.ring [a]
 have hn:0<=1-fx n.val*fx n.val:=by
  rw [key]
  have:=zi_nn (Int.mul_nonneg (show 0<=4294967296-n.val by omega) (show 0<=4294967296+n.val by omega))
  exact mn this (qn _)
 have hs:=sqrt_sq hn
 have hS:=An.sqrt_nn (1-fx n.val*fx n.val)
 rw [key] at hs hS ⊢
 generalize An.sqrt _=S at *
 have l1:fx q.val<=S:=sq_le hS (by rw [hs,fx_sq];exact zk_le f4)
 have l2:S<=fx (q.val+1):=sq_le (fx_nn (by omega)) (by rw [hs,fx_sq];exact zk_le (Int.le_of_lt f5))
 have hm:=Ev.mul_bd (Rng.w .i64 (4294967296-n.val)).bd (Rng.w .i64 (4294967296+n.val)).bd
 have hm2:=Ev.mul_bd q.bd q.bd
 simp only [zeM,t_spec_CircleAt,Tr.get,hi,f1,Bool.not_true,cfl]
 generalize hc:(!((zdq q q).hi.val==(zdq (Rng.w .i64 (4294967296-n.val)) (Rng.w .i64 (4294967296+n.val))).hi.val&&((zdq q q).lo.val==(zdq (Rng.w .i64 (4294967296-n.val)) (Rng.w .i64 (4294967296+n.val))).lo.val&&true)))=c
 cases c
 ·rw [swm_eq,swm_eq] at hc
  simp only [Bool.not_eq_false',Bool.and_eq_true,beq_iff_eq,and_true] at hc
  have w1:=wv_mkW (v:=q.val*q.val) (by omega) (by omega)
  have w2:=wv_mkW (v:=(Rng.w .i64 (4294967296-n.val)).val*(Rng.w .i64 (4294967296+n.val)).val) (by omega) (by omega)
  have hq:q.val*q.val=(4294967296-n.val)*(4294967296+n.val):=by
   rw [<- w1,<- e1,<- e2,<- w2];unfold wv;rw [hc.1,hc.2]
  have l3:S<=fx q.val:=sq_le (fx_nn f3) (by rw [hs,fx_sq,hq];exact le_refl _)
  exact fun _=>⟨l1,l3⟩
 ·simp only [ctr]
  refine fun ok=>⟨l1,?_⟩
  have hq:q.val+1<=9223372036854775807:=by
   by_cases hh:q.val+1<=9223372036854775807
   ·exact hh
   ·have h3:(4294967296:Int)*4294967296<=q.val*q.val:=Int.mul_le_mul (by omega) (by omega) (by decide) (by omega)
    have h4:(9223372036854775807:Int)*9223372036854775807<=q.val*q.val:=Int.mul_le_mul (by omega) (by omega) (by decide) (by omega)
    have h5:(4294967296-n.val)*(4294967296+n.val)=4294967296*4294967296-n.val*n.val:=by
     rw [Int.sub_mul,Int.mul_add,Int.mul_add,Int.mul_comm n.val 4294967296];omega
    have h6:0<=n.val*n.val:=by
     rcases Int.le_total 0 n.val with k|k
     ·exact Int.mul_nonneg k k
     ·exact Int.mul_nonneg_of_nonpos_of_nonpos k k
    omega
  show S<=fx (Rng.w .i64 (q.val+1)).val
  rw [wi (n:=q.val+1) (by omega) hq];exact l2
theorem In.asinAt {n:I64} (h1: -4294967296<=n.val) (h2:n.val<=4294967296):In (An.asin (fx n.val)) (zef n):=by
 have hi:zah n ⟨(-4294967296),rfl⟩ ⟨4294967296,rfl⟩=true:=by rw [zdg];simp;omega
 simp only [zef,t_spec_AsinAt,Tr.get,hi,Bool.not_true,cfl]
 have b1: -1<=fx n.val:=by rw [<- fx_m1];exact zer.2 h1
 have b2:fx n.val<=1:=by rw [<- fx_1];exact zer.2 h2
 have p:In (fx n.val) (zH n):=by simp only [zH,zeT,Tr.get];exact In.point
 have q:In (An.asin (fx n.val)) (zbD (zas (zw (zH n) (zG (zm ⟨1,rfl⟩) (zeM n))))):=(p.div (In.one.add (In.circle h1 h2))).atan.dbl
 have bd:=asin_bd b1 b2
 exact (In.meetI q (In.quarter bd.1 bd.2)).1
theorem In.asin {x:Re} {a:Iv} (h:In x a) (h1: -1<=x) (h2:x<=1):In (An.asin x) (zee a):=by
 obtain ⟨m1,m2⟩:=In.meetI h (In.ring h1 h2)
 have e:zaD a=(za9 a zS).a:=by
  simp only [zaD,zfs,Tr.get,m2,Bool.not_true,cfl]
 have hasin:zee a=bif !(za9 a zS).b then zk else zac (zef (za9 a zS).a.lo) (zef (za9 a zS).a.hi):=by
  simp only [zee,t_spec_AsinI,Tr.get,zcu]
 obtain ⟨o,r1,r2,_,_⟩:=meet_in a
 rw [e] at o r1 r2
 rw [hasin,m2]
 simp only [Bool.not_true,cfl]
 generalize (za9 a zS).a=M at *
 have b:=(zbz M).1 o
 obtain ⟨l1,l2⟩:=m1 o
 have c1: -1<=fx M.lo.val:=by rw [<- fx_m1];exact zer.2 r1
 have c2:fx M.hi.val<=1:=by rw [<- fx_1];exact zer.2 r2
 exact In.between (In.hull_l (In.asinAt (n:=M.lo) (by omega) (by omega))) (In.hull_r (In.asinAt (n:=M.hi) (by omega) (by omega))) (asin_up c1 l1 h2) (asin_up h1 l2 c2)
end Go.Proofs.YtfcjhkkpbnobhaaGreat.Nc
namespace Go.Proofs.YtfcjhkkpbnobhaaGreat.Nc
open Go Go.Proofs.YtfcjhkkpbnobhaaGreat.An
open Go.Proofs.YtfcjhkkpbnobhaaGreat.Ev hiding mn mul_bd neg_eq sq_lt sub_eq
def zq (e:Ell) (s:Re):Re:=if e.num.val=0 then 2*s else (1-ee e)*(s/(1-ee e*(s*s))+ath (An.sqrt (ee e)*s)/An.sqrt (ee e))
theorem one_sq {s:Re} (h1: -1<=s) (h2:s<=1):0<=1-s*s:=eq_nn (show 1-s*s=(1-s)*(s - -1) from An.ring [s]) (mn (sn h2) (sn h1))
theorem den_pos {e:Ell} (h:zaB e=true) {s:Re} (h1: -1<=s) (h2:s<=1):0<1-ee e*(s*s):=by
 obtain ⟨e0,e1⟩:=ee_bd h
 have k:=one_sq h1 h2
 have k2:=sqn s
 generalize ee e=E at *
 exact zfG [E,s] (ppn (ppn (qp (49/50)) (sn e1)) (mn e0 k))
theorem sq_ee {e:Ell} (h:zaB e=true):0<=An.sqrt (ee e)/\An.sqrt (ee e)<=rat (1/2):=by
 obtain ⟨e0,e1⟩:=ee_bd h
 refine ⟨An.sqrt_nn _,sq_le (qn (1/2)) ?_⟩
 rw [sqrt_sq e0]
 exact le_trans e1 (zX [] (qn (23/100)))
theorem ee_pos {e:Ell} (h:zaB e=true) (hn:¬e.num.val=0):0<ee e:=by
 have b:=ell_bd h
 have f:=ef_bd h
 have p:0<ef e:=div_p (by rw [<- zi_0];exact zi_lt.2 (by omega)) (by rw [<- zi_0];exact zi_lt.2 (by omega))
 unfold ee
 rw [show zi 2=2 from rfl]
 generalize ef e=x at *
 exact mp p (zfG [x] (ppn (qp (199/100)) (sn f.2)))
theorem gs_bd {e:Ell} (h:zaB e=true) {s:Re} (h1: -1<=s) (h2:s<=1): -1<An.sqrt (ee e)*s/\An.sqrt (ee e)*s<1:=by
 obtain ⟨g0,g1⟩:=sq_ee h
 generalize An.sqrt (ee e)=g at *
 exact ⟨zfG [g,s] (ppn (ppn (qp (1/2)) (sn g1)) (mn g0 (sn h1))),zfG [g,s] (ppn (ppn (qp (1/2)) (sn g1)) (mn g0 (sn h2)))⟩
theorem zq_mono {e:Ell} (h:zaB e=true) {s t:Re} (h1: -1<=s) (hst:s<=t) (h2:t<=1):zq e s<=zq e t:=by
 unfold zq
 by_cases hn:e.num.val=0
 ·rw [if_pos hn,if_pos hn];exact zX [s,t] (kn 2 (sn hst))
 ·rw [if_neg hn,if_neg hn]
  have hs2:=le_trans hst h2
  have ht1:=le_trans h1 hst
  have p1:=den_pos h h1 hs2
  have p2:=den_pos h ht1 h2
  obtain ⟨e0,e1⟩:=ee_bd h
  have gp:0<An.sqrt (ee e):=sqrt_pos (ee_pos h hn)
  have m:=ath_mono (x:=An.sqrt (ee e)*s) (y:=An.sqrt (ee e)*t) (gs_bd h h1 hs2).1 (mul_le_l (le_of_lt gp) hst) (gs_bd h ht1 h2).2
  have m2:ath (An.sqrt (ee e)*s)/An.sqrt (ee e)<=ath (An.sqrt (ee e)*t)/An.sqrt (ee e):=by
   rw [div_le gp,div_mul (ne_of_gt gp)];exact m
  have m1:s/(1-ee e*(s*s))<=t/(1-ee e*(t*t)):=by
   rw [div_le p1,show t/(1-ee e*(t*t))*(1-ee e*(s*s))=t*(1-ee e*(s*s))/(1-ee e*(t*t)) from by
    rw [div_eq,div_eq];generalize (1-ee e*(t*t))⁻¹=i;generalize ee e=E;exact An.ring [t,i,E,s],le_div p2]
   have st:0<=1+ee e*(s*t):=by
    have a1:0<=(1-s)*(t - -1):=mn (sn hs2) (sn ht1)
    have a2:0<=(s - -1)*(1-t):=mn (sn h1) (sn h2)
    have a3:0<=(s - -1)*(t - -1):=mn (sn h1) (sn ht1)
    have a4:0<=(1-s)*(1-t):=mn (sn hs2) (sn h2)
    have b1: -1<=s*t:=zX [s,t] (kn (1/2) (pn a3 a4))
    generalize ee e=E at *
    exact zX [E,s,t] (eq_nn (show 1+E*(s*t)-0=E*(s*t - -1)+(rat (1/50)-E)+rat (49/50) from An.ring [E,s,t]) (pn (pn (mn e0 (sn b1)) (sn e1)) (qn _)))
   generalize ee e=E at *
   exact zX [E,s,t] (mn (sn hst) st)
  have w:0<=1-ee e:=zX [ee e] (pn (sn e1) (qn (49/50)))
  exact mul_le_l w (add_le m1 m2)
theorem zq_neg (e:Ell) (s:Re):zq e (-s)= - zq e s:=by
 unfold zq
 split
 ·exact An.ring [s]
 ·rw [show An.sqrt (ee e) * -s= -(An.sqrt (ee e)*s) from by generalize An.sqrt (ee e)=g;exact An.ring [g,s],ath_neg,show -s * -s=s*s from An.ring [s],div_eq,div_eq,div_eq,div_eq]
  generalize (1-ee e*(s*s))⁻¹=i;generalize (An.sqrt (ee e))⁻¹=j;generalize ath (An.sqrt (ee e)*s)=k;generalize ee e=E
  exact An.ring [s,i,j,k,E]
theorem zq_1 {e:Ell} (h:zaB e=true):0<zq e 1:=by
 unfold zq
 by_cases hn:e.num.val=0
 ·rw [if_pos hn];exact zfG [] (qp 2)
 ·rw [if_neg hn]
  obtain ⟨e0,e1⟩:=ee_bd h
  have gp:0<An.sqrt (ee e):=sqrt_pos (ee_pos h hn)
  have p1:=den_pos h (s:=1) (by exact num_le (-1) 1) (le_refl _)
  have m:=ath_mono (x:=0) (y:=An.sqrt (ee e)*1) (num_lt (-1) 0) (by rw [mul_one];exact le_of_lt gp) (gs_bd h (s:=1) (by exact num_le (-1) 1) (le_refl _)).2
  rw [ath_zero] at m
  exact mp (zfG [ee e] (ppn (qp (49/50)) (sn e1))) (ppn (div_p (qp 1) p1) (div_n m gp))
theorem In.zoneQ {e:Ell} (h:zaB e=true) {s:Re} {a:Iv} (k:In s a) (h1: -1<=s) (h2:s<=1):In (zq e s) (zcM e a):=by
 unfold zq
 simp only [zcM,t_spec_l13Q,Tr.get]
 by_cases hn:e.num.val=0
 ·rw [if_pos hn]
  simp only [hn,beq_self_eq_true,ctr]
  exact (In.int (n:=⟨2,rfl⟩) (by decide)).mul k
 ·rw [if_neg hn]
  have hb:(e.num.val==0)=false:=by simpa using hn
  simp only [hb,cfl]
  have x:=In.ecc h
  exact (In.one.sub x).mul ((k.div (In.one.sub (x.mul k.sqr))).add ((x.sqrt.mul k).atanh.div x.sqrt))
def za (e:Ell) (s:Re):Re:=hp*zq e s/zi 2
theorem In.zone {e:Ell} (h:zaB e=true) {t:Re} {a b:Iv} (k:In t a) (l:In hp b):In (za e (An.sin t)) (za5 e a b):=by
 have e1:za5 e a b=zw (zu b (zcM e (zcy a))) (zm ⟨2,rfl⟩):=by
  simp only [za5,t_impl_ZoneArea,Tr.get,ell_eq,h,Bool.not_true,cfl,zeo,t_impl_over,mulI_F,divI_F,zone25_eq,sinI_eq,zbU]
 rw [e1]
 exact (l.mul (In.zoneQ h k.sin (sin_gem1 _) (sin_le1 _))).div (In.int (n:=⟨2,rfl⟩) (by decide))
theorem sin_end {n:I64} (h1: -6746518853<=n.val) (h2:n.val<=6746518853) {t:Re} (t1: -hp<=t) (t2:t<=hp) (hn:fx n.val<=t):∃s,In s (zb3 n) /\ -1<=s/\s<=1/\s<=An.sin t:=by
 by_cases hh: -hp<=fx n.val
 ·exact ⟨An.sin (fx n.val),In.sinAt,sin_gem1 _,sin_le1 _,sin_mono hh hn t2⟩
 ·refine ⟨-1,fun ok=>?_,le_refl _,num_le (-1) 1,sin_gem1 _⟩
  obtain ⟨i1,i2⟩:=In.sinAt (n:=n) ok
  refine ⟨?_,le_trans (sin_gem1 _) i2⟩
  have l:=An.not_le.1 hh
  have l1:fx (-6746518853)<=fx n.val:=zer.2 h1
  have lo:=hp_lo
  have e0:fx (-6746518853)=rat (-6746518853/4294967296):=by
   show rat (-6746518853)*rat (1/4294967296)=_
   exact An.ring []
  rw [e0] at l1
  have d0:0 <= -hp-fx n.val:=le_of_lt (sp l)
  have d1: -hp-fx n.val<=rat (1/4294967296):=by
   generalize fx n.val=f at *
   exact zX [f,hp] (pn (pn (sn l1) (sn lo)) (qn (1/4294967296+7244019458077122842/4611686018427387904-6746518853/4294967296)))
  have c:=cos_ge d0
  have e1:An.sin (fx n.val)= - An.cos (-hp-fx n.val):=by
   rw [show -hp-fx n.val= -(fx n.val+hp) from by generalize fx n.val=f;exact An.ring [f,hp],cos_neg,cos_add_hp]
   generalize An.sin (fx n.val)=u;exact An.ring [u]
  rw [e1] at i1
  generalize -hp-fx n.val=d at *
  generalize An.cos d=C at *
  have dd:d*d<=rat (1/4294967296):=by
   exact zX [d] (pn (mn d0 (sn d1)) (pn (kn (1/4294967296) (sn d1)) (qn (1/4294967296-1/4294967296/4294967296))))
  have b:fx (zb3 n).lo.val<fx (-4294967295):=by
   refine lt_of_le_of_lt i1 ?_
   have e2:fx (-4294967295)=rat (-4294967295/4294967296):=by
    show rat (-4294967295)*rat (1/4294967296)=_
    exact An.ring []
   rw [e2]
   exact zfG [C,d] (ppn (ppn (qp (1/4294967296/2)) (sn c)) (kn (1/2) (sn dd)))
  rw [<- fx_m1]
  have:=fx_lt.1 b
  exact zer.2 (by omega)
theorem sin_end2 {n:I64} (h1: -6746518853<=n.val) (h2:n.val<=6746518853) {t:Re} (t1: -hp<=t) (t2:t<=hp) (hn:t<=fx n.val):∃s,In s (zb3 n) /\ -1<=s/\s<=1/\An.sin t<=s:=by
 by_cases hh:fx n.val<=hp
 ·exact ⟨An.sin (fx n.val),In.sinAt,sin_gem1 _,sin_le1 _,sin_mono t1 hn hh⟩
 ·refine ⟨1,fun ok=>?_,num_le (-1) 1,le_refl _,sin_le1 _⟩
  obtain ⟨i1,i2⟩:=In.sinAt (n:=n) ok
  refine ⟨le_trans i1 (sin_le1 _),?_⟩
  have l:=An.not_le.1 hh
  have l1:fx n.val<=fx 6746518853:=zer.2 h2
  have lo:=hp_lo
  have e0:fx 6746518853=rat (6746518853/4294967296):=by
   show rat 6746518853*rat (1/4294967296)=_
   exact An.ring []
  rw [e0] at l1
  have d0:0<=fx n.val-hp:=le_of_lt (sp l)
  have d1:fx n.val-hp<=rat (1/4294967296):=by
   generalize fx n.val=f at *
   exact zX [f,hp] (pn (pn (sn l1) (sn lo)) (qn (1/4294967296+7244019458077122842/4611686018427387904-6746518853/4294967296)))
  have c:=cos_ge d0
  have e1:An.sin (fx n.val)=An.cos (fx n.val-hp):=by
   rw [<- sin_add_hp,show fx n.val-hp+hp=fx n.val from by generalize fx n.val=f;exact An.ring [f,hp]]
  rw [e1] at i2
  generalize fx n.val-hp=d at *
  generalize An.cos d=C at *
  have dd:d*d<=rat (1/4294967296):=by
   exact zX [d] (pn (mn d0 (sn d1)) (pn (kn (1/4294967296) (sn d1)) (qn (1/4294967296-1/4294967296/4294967296))))
  have b:fx 4294967295<fx (zb3 n).hi.val:=by
   refine lt_of_lt_of_le ?_ i2
   have e2:fx 4294967295=rat (4294967295/4294967296):=by
    show rat 4294967295*rat (1/4294967296)=_
    exact An.ring []
   rw [e2]
   exact zfG [C,d] (ppn (ppn (qp (1/4294967296/2)) (sn c)) (kn (1/2) (sn dd)))
  rw [<- fx_1]
  have:=fx_lt.1 b
  exact zer.2 (by omega)
def zr (e:Ell) (s:Re):Re:=zq e s/zq e 1
theorem zr_bd {e:Ell} (h:zaB e=true) {s:Re} (h1: -1<=s) (h2:s<=1): -1<=zr e s/\zr e s<=1:=by
 have p:=zq_1 h
 have a:=zq_mono h h1 h2 (le_refl _)
 have b:=zq_mono h (le_refl _) h1 h2
 rw [zq_neg] at b
 unfold zr
 constructor
 ·rw [le_div p];generalize zq e 1=q at *;rw [show -1*q= -q from An.ring [q]];exact b
 ·rw [div_le p,one_mul];exact a
theorem zr_mono {e:Ell} (h:zaB e=true) {s t:Re} (h1: -1<=s) (hst:s<=t) (h2:t<=1):zr e s<=zr e t:=by
 have p:=zq_1 h
 unfold zr
 rw [div_le p,div_mul (ne_of_gt p)]
 exact zq_mono h h1 hst h2
theorem In.auth {e:Ell} (h:zaB e=true) {s:Re} {a:Iv} (k:In s a) (h1: -1<=s) (h2:s<=1):In (An.asin (zr e s)) (zee (zw (zcM e a) (zcM e (zm ⟨1,rfl⟩)))):=
 ((In.zoneQ h k h1 h2).div (In.zoneQ h In.one (num_le (-1) 1) (le_refl _))).asin (zr_bd h h1 h2).1 (zr_bd h h1 h2).2
theorem auth_val {e:Ell} (h:zaB e=true) {n:I64} (ok:zf (zch ⟨4,rfl⟩ e n)=true):(-6746518853<=n.val/\n.val<=6746518853)/\zch ⟨4,rfl⟩ e n=zee (zw (zcM e (zb3 n)) (zcM e (zm ⟨1,rfl⟩))):=by
 have hq:=q_val
 have en:(Rng.w .i64 (0-(zaQ ⟨1,rfl⟩).hi.val)).val= -6746518853:=by rw [hq];exact wi (by omega) (by omega)
 have hk:F_spec_l13Kind ⟨4,rfl⟩=true:=by kernel_rfl
 have e0:zch ⟨4,rfl⟩ e n=bif !(decide (-6746518853<=n.val/\n.val<=6746518853)) then zk else zee (zw (zcM e (zb3 n)) (zcM e (zm ⟨1,rfl⟩))):=by
  simp only [zch,t_spec_LatitudeAt,Tr.get,hk,h,end_F,zdg,Bool.not_true,cfl,F_spec_l13At,t_spec_l13At]
  rw [en,hq]
  rfl
 by_cases hn: -6746518853<=n.val/\n.val<=6746518853
 ·refine ⟨hn,?_⟩
  rw [e0]
  simp only [hn,and_self,decide_true,Bool.not_true,cfl]
 ·exfalso
  rw [e0] at ok
  simp only [hn,decide_false,Bool.not_false,ctr,zbI] at ok
  cases ok
theorem In.authI {e:Ell} (h:zaB e=true) {t:Re} (t1: -hp<=t) (t2:t<=hp) {x:Iv} (k:In t x):In (An.asin (zr e (An.sin t))) (zfo ⟨4,rfl⟩ e x):=by
 simp only [zfo,t_spec_LatitudeI,Tr.get]
 cases hx:zf x
 ·exact In.whole _
 ·simp only [Bool.not_true,cfl]
  obtain ⟨k1,k2⟩:=k hx
  refine In.ends8 fun o1 o2=>?_
  obtain ⟨b1,v1⟩:=auth_val h o1
  obtain ⟨b2,v2⟩:=auth_val h o2
  obtain ⟨s,s1,s2,s3,s4⟩:=sin_end b1.1 b1.2 t1 t2 k1
  obtain ⟨u,u1,u2,u3,u4⟩:=sin_end2 b2.1 b2.2 t1 t2 k2
  have i1:=In.auth h s1 s2 s3
  have i2:=In.auth h u1 u2 u3
  rw [v1] at o1 ⊢
  rw [v2] at o2 ⊢
  exact ⟨le_trans (i1 o1).1 (asin_up (zr_bd h s2 s3).1 (zr_mono h s2 s4 (sin_le1 t)) (zr_bd h (sin_gem1 t) (sin_le1 t)).2),
   le_trans (asin_up (zr_bd h (sin_gem1 t) (sin_le1 t)).1 (zr_mono h (sin_gem1 t) u4 u3) (zr_bd h u2 u3).2) (i2 o2).2⟩
theorem za_mono {e:Ell} (h:zaB e=true) {s t:Re} (h1: -1<=s) (hst:s<=t) (h2:t<=1):za e s<=za e t:=by
 have k:=zq_mono h h1 hst h2
 have hp0:=le_of_lt hp_p
 unfold za
 rw [div_eq,div_eq]
 have i:0<=(zi 2)⁻¹:=le_of_lt (inv_p (by rw [<- zi_0];exact zi_lt.2 (by decide)))
 generalize (zi 2)⁻¹=j at *;generalize zq e s=a at *;generalize zq e t=b at *
 exact zX [hp,a,b,j] (mn (mn hp0 (sn k)) i)
theorem za_neg (e:Ell) (s:Re):za e (-s)= - za e s:=by
 unfold za
 rw [zq_neg,div_eq,div_eq]
 generalize (zi 2)⁻¹=j;generalize zq e s=a
 exact An.ring [hp,a,j]
theorem In.hp90:In hp (zaJ ⟨900000000,rfl⟩):=by
 have:=In.rad (n:=⟨900000000,rfl⟩)
 rwa [rad_q] at this
theorem In.latOf (p:Point):In (Nc.rad p.lat.val) (zbE p):=by
 simp only [zbE,t_spec_LatOf,Tr.get]
 cases zcG p
 ·simp only [Bool.not_false,ctr,zcu];exact In.whole _
 ·simp only [Bool.not_true,cfl];exact In.rad (n:=p.lat)
theorem zones_law {e:Ell} {p q:Point} (h:zaB e=true) (h1:zcG p=true) (h2:zcG q=true):
  (p.lat.val<q.lat.val->((F_spec_LessI (za5 e (zbE q) (zaJ ⟨900000000,rfl⟩)) (za5 e (zbE p) (zaJ ⟨900000000,rfl⟩))).val==1)=false) /\
  zav (za5 e (zaE (zbE p)) (zaJ ⟨900000000,rfl⟩)) (zaE (za5 e (zbE p) (zaJ ⟨900000000,rfl⟩)))=true /\
  zav (zu (za5 e (zU ⟨1,rfl⟩) (zaJ ⟨900000000,rfl⟩)) (zcy (zfo ⟨4,rfl⟩ e (zbE p)))) (za5 e (zbE p) (zaJ ⟨900000000,rfl⟩))=true /\
  (¬e.num.val>0->zav (za5 e (zU ⟨1,rfl⟩) (zaJ ⟨900000000,rfl⟩)) (zU ⟨1,rfl⟩)=true):=by
 have lp:=In.latOf p
 have lq:=In.latOf q
 have zp:=In.zone h lp In.hp90
 have zq':=In.zone h lq In.hp90
 have t1:In hp (zU ⟨1,rfl⟩):=by have:=In.turn' (k:=⟨1,rfl⟩) (by decide) (by decide);rwa [show qt (⟨1,rfl⟩:I64).val=hp from qt_1] at this
 have top:=In.zone h t1 In.hp90
 rw [sin_hp] at top
 have bp:=lat_b h1
 have bq:=lat_b h2
 refine ⟨fun hl=>?_,?_,?_,fun hn=>?_⟩
 ·have m:=za_mono h (sin_gem1 _) (sin_mono bp.1 (rad_up (Int.le_of_lt hl)) bq.2) (sin_le1 _)
  have k:=not_less zq' zp m
  simpa using k
 ·have n:=In.zone h lp.neg In.hp90
  rw [An.sin_neg,za_neg] at n
  exact n.overlap zp.neg
 ·have a:=(In.authI h bp.1 bp.2 lp).sin
  have b:=zr_bd h (sin_gem1 (Nc.rad p.lat.val)) (sin_le1 _)
  rw [sin_asin b.1 b.2] at a
  have m:=top.mul a
  rw [show za e 1*zr e (An.sin (Nc.rad p.lat.val))=za e (An.sin (Nc.rad p.lat.val)) from by
   have e1:=div_mul (x:=zq e (An.sin (Nc.rad p.lat.val))) (ne_of_gt (zq_1 h))
   unfold za zr
   rw [div_eq (hp*zq e 1),div_eq (hp*zq e (An.sin (Nc.rad p.lat.val)))]
   generalize zq e (An.sin (Nc.rad p.lat.val))/zq e 1=r at *
   rw [<- e1]
   generalize (zi 2)⁻¹=j;generalize zq e 1=q1
   exact An.ring [hp,q1,j,r]] at m
  exact m.overlap zp
 ·have n0:e.num.val=0:=by have:=ell_bd h;omega
  have ev:za e 1=hp:=by
   unfold za zq
   rw [if_pos n0]
   refine eq_of_mul (z:=zi 2) (ne_of_gt (by rw [<- zi_0];exact zi_lt.2 (by decide))) ?_
   rw [div_mul (ne_of_gt (by rw [<- zi_0];exact zi_lt.2 (by decide))),show zi 2=2 from rfl]
   exact An.ring [hp]
  rw [ev] at top
  exact top.overlap t1
end Go.Proofs.YtfcjhkkpbnobhaaGreat.Nc
