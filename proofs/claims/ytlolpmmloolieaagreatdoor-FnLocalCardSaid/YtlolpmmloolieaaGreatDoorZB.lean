/- The law FnLocal gives true, whatever bytes come in, where the listed tables hold what the program's text lays. The card: the tables tied to the text. No other conditions. (One of the texts of its proof, put together by a program of this session.) -/
import Derived.Test.YtlolpmmloolieaaGreatDoorZA
import Derived.Test.YtlolpmmloolieaaGreatDoorZW5
set_option linter.unusedSectionVars false
set_option linter.unusedSimpArgs false
set_option linter.unusedVariables false
noncomputable section
namespace Go.Proofs.YtlolpmmloolieaaGreatDoor.Nc
open Go Go.Proofs.YtlolpmmloolieaaGreatDoor.An
open Go.Proofs.YtlolpmmloolieaaGreatDoor.Ev hiding mn zfG neg_eq sq_lt sub_eq
def fx (n:Int):Re:=zi n*rat (1/4294967296)
def In (x:Re) (a:Iv):Prop:=za a=true->fx a.lo.val<=x/\x<=fx a.hi.val
theorem In.no {x:Re} {a:Iv} (h:za a=false):In x a:=fun k=>by rw [h] at k;cases k
theorem In.whole (x:Re):In x zn:=In.no zcH
theorem fx_le {a b:Int}:fx a<=fx b↔a<=b:=by
 unfold fx
 constructor
 ·intro h;exact zi_le.1 (zdh (qp (1/4294967296)) h)
 ·intro h;have:=zi_le.2 h;generalize zi a=x at *;generalize zi b=y at *;exact zaa [x,y] (mn (sn this) (qn (1/4294967296)))
theorem fx_lt {a b:Int}:fx a<fx b↔a<b:=by
 rw [<- An.not_le,fx_le];omega
theorem fx_add (a b:Int):fx (a+b)=fx a+fx b:=by unfold fx;rw [zi_add,An.add_mul]
theorem zfW (a:Int):fx (-a)= - fx a:=by unfold fx;rw [zi_neg,An.neg_mul]
theorem fx_sub (a b:Int):fx (a-b)=fx a-fx b:=by rw [Int.sub_eq_add_neg,fx_add,zfW];rfl
theorem fx_0:fx 0=0:=An.zero_mul _
theorem fx_unit (a:Int):fx (a*4294967296)=zi a:=by
 unfold fx;rw [zeH];generalize zi a=x
 show x*rat (4294967296:Int)*_=x
 exact ring [x]
theorem fx_1:fx 4294967296=1:=fx_unit 1
theorem fx_nn {a:Int} (h:0<=a):0<=fx a:=by rw [<- fx_0];exact fx_le.2 h
theorem fx_p {a:Int} (h:0<a):0<fx a:=by rw [<- fx_0];exact fx_lt.2 h
theorem fx_neg' {a:Int} (h:a<0):fx a<0:=by rw [<- fx_0];exact fx_lt.2 h
theorem In.point {n:I64}:In (fx n.val) ⟨n,n⟩:=fun _=>⟨le_refl _,le_refl _⟩
theorem In.add {x y:Re} {a b:Iv} (h:In x a) (k:In y b):In (x+y) (zaE a b):=fun ok=>by
 obtain ⟨o1,o2,e1,e2⟩:=addI_val ok
 obtain ⟨h1,h2⟩:=h o1
 obtain ⟨k1,k2⟩:=k o2
 rw [e1,e2,fx_add,fx_add]
 exact ⟨zeI h1 k1,zeI h2 k2⟩
theorem In.sub {x y:Re} {a b:Iv} (h:In x a) (k:In y b):In (x-y) (zO a b):=fun ok=>by
 obtain ⟨o1,o2,e1,e2⟩:=subI_val ok
 obtain ⟨h1,h2⟩:=h o1
 obtain ⟨k1,k2⟩:=k o2
 rw [e1,e2,fx_sub,fx_sub]
 generalize fx a.lo.val=p at *;generalize fx a.hi.val=q at *;generalize fx b.lo.val=r at *;generalize fx b.hi.val=s at *
 exact ⟨zaa [x,y,p,q,r,s] (pn (sn h1) (sn k2)),zaa [x,y,p,q,r,s] (pn (sn h2) (sn k1))⟩
theorem negI_val {a:Iv} (h:za (zaQ a)=true):za a=true/\(zaQ a).lo.val= -a.hi.val/\(zaQ a).hi.val= -a.lo.val:=by
 simp only [zaQ,t_spec_NegI,Tr.get] at h ⊢
 cases ha:za a
 ·rw [ha] at h;simp only [Bool.not_false,ctr] at h;rw [zcH] at h;cases h
 have b:=(zbW _).1 ha
 have e1:(Rng.w .i64 (0-a.hi.val)).val= -a.hi.val:=by rw [wi (by omega) (by omega)];omega
 have e2:(Rng.w .i64 (0-a.lo.val)).val= -a.lo.val:=by rw [wi (by omega) (by omega)];omega
 simp only [ha,Bool.not_true,cfl] at h ⊢
 rw [zcX (by rw [e1,e2];omega)]
 exact ⟨trivial,e1,e2⟩
theorem In.neg {x:Re} {a:Iv} (h:In x a):In (-x) (zaQ a):=fun ok=>by
 obtain ⟨o1,e1,e2⟩:=negI_val ok
 obtain ⟨h1,h2⟩:=h o1
 rw [e1,e2,zfW,zfW]
 generalize fx a.lo.val=p at *;generalize fx a.hi.val=q at *
 exact ⟨zaa [x,q] (sn h2),zaa [x,p] (sn h1)⟩
theorem fx_floor {p d:Int} (hd:0<d):zi (p/d)*zi d<=zi p:=by
 rw [<- zeH,zi_le]
 have:=Int.ediv_mul_le p (show d≠0 by omega)
 omega
theorem fx_mul_lo (x y:Int):fx (x*y/4294967296)<=fx x*fx y:=by
 have:=fx_floor (p:=x*y) (d:=4294967296) (by decide)
 rw [zeH x y] at this
 unfold fx
 generalize zi (x*y/4294967296)=q at *;generalize zi x=a at *;generalize zi y=b at *
 rw [show zi 4294967296=rat 4294967296 from rfl] at this
 exact zaa [q,a,b] (kn (1/18446744073709551616) (sn this))
theorem fx_mul_hi (x y:Int):fx x*fx y<=fx (-(-(x*y)/4294967296)):=by
 have:=fx_mul_lo (-x) y
 rw [show -x*y= -(x*y) from Int.neg_mul x y,zfW x] at this
 rw [zfW]
 generalize fx (-(x*y)/4294967296)=q at *;generalize fx x=a at *;generalize fx y=b at *
 exact zaa [q,a,b] (sn this)
theorem real_lo {p q r s x y L:Re} (hx:p<=x) (hx':x<=q) (hy:r<=y) (hy':y<=s) (h1:L<=p*r) (h2:L<=p*s) (h3:L<=q*r) (h4:L<=q*s):L<=x*y:=by
 have a:∀u,L<=u*r->L<=u*s->L<=u*y:=fun u k1 k2=>by
  rcases le_total 0 u with m|m
  ·exact le_trans k1 (zaa [u,r,y] (mn m (sn hy)))
  ·exact le_trans k2 (zaa [u,s,y] (mn (neg_nn m) (sn hy')))
 have b1:=a p h1 h2
 have b2:=a q h3 h4
 rcases le_total 0 y with m|m
 ·exact le_trans b1 (zaa [p,x,y] (mn (sn hx) m))
 ·exact le_trans b2 (zaa [q,x,y] (mn (sn hx') (neg_nn m)))
theorem real_hi {p q r s x y L:Re} (hx:p<=x) (hx':x<=q) (hy:r<=y) (hy':y<=s) (h1:p*r<=L) (h2:p*s<=L) (h3:q*r<=L) (h4:q*s<=L):x*y<=L:=by
 have:=real_lo (L:= -L) (p:= -q) (q:= -p) (x:= -x) (zaa [q,x] (sn hx')) (zaa [p,x] (sn hx)) hy hy'
  (zaa [q,r,L] (sn h3)) (zaa [q,s,L] (sn h4)) (zaa [p,r,L] (sn h1)) (zaa [p,s,L] (sn h2))
 exact zaa [x,y,L] (sn this)
theorem In.mul {x y:Re} {a b:Iv} (h:In x a) (k:In y b):In (x*y) (zM a b):=fun ok=>by
 obtain ⟨o1,o2,hc⟩:=mulI_corner ok
 obtain ⟨h1,h2⟩:=h o1
 obtain ⟨k1,k2⟩:=k o2
 have lo:∀u v:I64,(u=a.lo\/u=a.hi)->(v=b.lo\/v=b.hi)->fx (zM a b).lo.val<=fx u.val*fx v.val:=fun u v hu hv=>le_trans (fx_le.2 (hc u v hu hv).1) (fx_mul_lo _ _)
 have hi:∀u v:I64,(u=a.lo\/u=a.hi)->(v=b.lo\/v=b.hi)->fx u.val*fx v.val<=fx (zM a b).hi.val:=fun u v hu hv=>le_trans (fx_mul_hi _ _) (fx_le.2 (hc u v hu hv).2)
 exact ⟨real_lo h1 h2 k1 k2 (lo _ _ (.inl rfl) (.inl rfl)) (lo _ _ (.inl rfl) (.inr rfl)) (lo _ _ (.inr rfl) (.inl rfl)) (lo _ _ (.inr rfl) (.inr rfl)),
  real_hi h1 h2 k1 k2 (hi _ _ (.inl rfl) (.inl rfl)) (hi _ _ (.inl rfl) (.inr rfl)) (hi _ _ (.inr rfl) (.inl rfl)) (hi _ _ (.inr rfl) (.inr rfl))⟩
theorem zfH {a:Iv} (h:za a=true):0<=(zF a).a.val/\((a.lo.val<=0/\0<=a.hi.val/\(zF a).a.val=0)\/(0<a.lo.val/\(zF a).a.val=a.lo.val)\/(a.hi.val<0/\(zF a).a.val= -a.hi.val)) /\
  a.hi.val<=(zF a).b.val /\ -a.lo.val<=(zF a).b.val/\(zF a).b.val<1152921504606846976/\(zF a).a.val<=(zF a).b.val:=by
 have b:=(zbW _).1 h
 have n1:(Rng.w .i64 (0-a.lo.val)).val= -a.lo.val:=by rw [wi (by omega) (by omega)];omega
 have n2:(Rng.w .i64 (0-a.hi.val)).val= -a.hi.val:=by rw [wi (by omega) (by omega)];omega
 have m1:=zfj a.lo (.w .i64 (0-a.lo.val))
 have m2:=zfj a.hi (.w .i64 (0-a.hi.val))
 have m3:=zfj (zo a.lo (.w .i64 (0-a.lo.val))) (zo a.hi (.w .i64 (0-a.hi.val)))
 have m4:=zfZ (zo a.lo (.w .i64 (0-a.lo.val))) (zo a.hi (.w .i64 (0-a.hi.val)))
 rw [n1] at m1
 rw [n2] at m2
 have hh:zaL a ⟨0,rfl⟩=decide (a.lo.val<=0/\0<=a.hi.val):=by simp only [zaL,zcI,Tr.get,zed]
 simp only [zF,zcU,Tr.get,hh]
 by_cases c:a.lo.val<=0/\0<=a.hi.val
 ·simp only [c,and_self,decide_true,ctr]
  exact ⟨by decide,by first|exact .inl trivial|simp [c.1,c.2],by omega,by omega,by omega,by omega⟩
 ·simp only [c,decide_false,cfl]
  exact ⟨by omega,by omega,by omega,by omega,by omega,by omega⟩
theorem In.ends {x:Re} {a:Iv} (h:In x a) (o:za a=true):fx (zF a).a.val<=An.abs x/\An.abs x<=fx (zF a).b.val:=by
 obtain ⟨h1,h2⟩:=h o
 obtain ⟨e0,e1,e2,e3,e4,e5⟩:=zfH o
 constructor
 ·rcases e1 with ⟨_,_,e⟩|⟨k,e⟩|⟨k,e⟩
  ·rw [e,fx_0];exact zcy x
  ·rw [e];exact le_trans h1 (le_abs x)
  ·rw [e,zfW]
   have:=neg_le_abs x
   generalize fx a.hi.val=q at *;generalize An.abs x=u at *
   exact zaa [x,q,u] (pn (sn this) (sn h2))
 ·refine abs_le ?_ (le_trans h2 (fx_le.2 e2))
  refine le_trans ?_ h1
  rw [<- zfW];exact fx_le.2 (by omega)
theorem In.sqr {x:Re} {a:Iv} (h:In x a):In (x*x) (zaD a):=fun ok=>by
 obtain ⟨o1,e1,e2⟩:=sqrI_val ok
 obtain ⟨h1,h2⟩:=h.ends o1
 have e0:=(zfH o1).1
 rw [e1,e2,<- abs_sq]
 exact ⟨le_trans (fx_mul_lo _ _) (mul_le (fx_nn e0) h1 (fx_nn e0) h1),le_trans (mul_le (zcy x) h2 (zcy x) h2) (fx_mul_hi _ _)⟩
theorem zi_nn {a:Int} (h:0<=a):0<=zi a:=by rw [<- zi_0];exact zi_le.2 h
theorem fx_sq (a:Int):fx a*fx a=zi (a*a)*rat (1/18446744073709551616):=by
 unfold fx;rw [zeH];generalize zi a=x;exact ring [x]
theorem fx_up (a:Int):fx a=zi (a*4294967296)*rat (1/18446744073709551616):=by
 unfold fx;rw [zeH];generalize zi a=x;show _=x*rat (4294967296:Int)*_;exact ring [x]
theorem zk_le {a b:Int} (h:a<=b):zi a*rat (1/18446744073709551616)<=zi b*rat (1/18446744073709551616):=by
 have:=zi_le.2 h;generalize zi a=x at *;generalize zi b=y at *;exact zaa [x,y] (mn (sn this) (qn (1/18446744073709551616)))
theorem In.sqrt {x:Re} {a:Iv} (h:In x a):In (An.sqrt x) (zbY a):=fun ok=>by
 obtain ⟨o1,o2⟩:=sqrtI_nn ok
 obtain ⟨_,e1,e2⟩:=sqrtI_mk o1 o2
 have b:=(zbW _).1 o1
 obtain ⟨h1,h2⟩:=h o1
 have x0:=le_trans (fx_nn o2) h1
 rw [e1,e2]
 obtain ⟨q,p,s1,s2,t0,t1,t2,t3,t4,t5,t6,t7⟩:=su_val2 a.lo (by omega)
 obtain ⟨q',p',s1',s2',t0',t1',t2',t3',t4',t5',t6',t7'⟩:=su_val2 a.hi (by omega)
 rw [s1,s2']
 simp only
 constructor
 ·refine sq_le (An.sqrt_nn x) ?_
  rw [An.sqrt_sq x0,fx_sq]
  refine le_trans ?_ h1
  rw [fx_up];exact zk_le t2
 ·refine sq_le (fx_nn (by omega)) ?_
  rw [An.sqrt_sq x0,fx_sq]
  refine le_trans h2 ?_
  rw [fx_up];exact zk_le t6'
theorem fx_div_lo {x y:Int} (hy:0<y):fx (x*4294967296/y)<=fx x/fx y:=by
 rw [le_div (fx_p hy)]
 have:=fx_floor (p:=x*4294967296) hy
 unfold fx
 rw [zeH x] at this
 generalize zi (x*4294967296/y)=q at *;generalize zi x=a at *;generalize zi y=b at *
 rw [show zi 4294967296=rat 4294967296 from rfl] at this
 exact zaa [q,a,b] (kn (1/18446744073709551616) (sn this))
theorem neg_div (x y:Re): -x/y= -(x/y):=by rw [div_eq,div_eq,An.neg_mul]
theorem fx_div_hi {x y:Int} (hy:0<y):fx x/fx y<=fx (-(-x*4294967296/y)):=by
 have:=fx_div_lo (x:= -x) hy
 rw [zfW,neg_div] at this
 rw [zfW]
 generalize fx (-x*4294967296/y)=q at *;generalize fx x/fx y=a at *
 exact zaa [q,a] (sn this)
theorem inv_le {y s:Re} (h0:0<y) (h:y<=s):s⁻¹<=y⁻¹:=by
 have hs:=lt_of_lt_of_le h0 h
 have e1:=mul_inv (ne_of_gt h0)
 have e2:=mul_inv (ne_of_gt hs)
 refine zdh (mp h0 hs) ?_
 generalize y⁻¹=a at *;generalize s⁻¹=b at *
 rw [show b*(y*s)=y*(s*b) from ring [b,y,s],show a*(y*s)=s*(y*a) from ring [a,y,s],e1,e2]
 exact zaa [y,s] (sn h)
theorem In.div_pos {x y:Re} {a b:Iv} (h:In x a) (k:In y b) (h0:0<b.lo.val):In (x/y) (zU a b):=fun ok=>by
 obtain ⟨o1,o2,hc⟩:=divI_corner h0 ok
 obtain ⟨h1,h2⟩:=h o1
 obtain ⟨k1,k2⟩:=k o2
 have b':=(zbW _).1 o2
 have y0:=lt_of_lt_of_le (fx_p h0) k1
 have i1:=inv_le y0 k2
 have i2:=inv_le (fx_p h0) k1
 have p0:∀v:I64,(v=b.lo\/v=b.hi)->0<v.val:=by rintro v (rfl|rfl)<;>omega
 have lo:∀u v:I64,(u=a.lo\/u=a.hi)->(v=b.lo\/v=b.hi)->fx (zU a b).lo.val<=fx u.val*(fx v.val)⁻¹:=fun u v hu hv=>le_trans (fx_le.2 (hc u v hu hv).1) (fx_div_lo (p0 v hv))
 have hi:∀u v:I64,(u=a.lo\/u=a.hi)->(v=b.lo\/v=b.hi)->fx u.val*(fx v.val)⁻¹<=fx (zU a b).hi.val:=fun u v hu hv=>le_trans (fx_div_hi (p0 v hv)) (fx_le.2 (hc u v hu hv).2)
 exact ⟨real_lo h1 h2 i1 i2 (lo _ _ (.inl rfl) (.inr rfl)) (lo _ _ (.inl rfl) (.inl rfl)) (lo _ _ (.inr rfl) (.inr rfl)) (lo _ _ (.inr rfl) (.inl rfl)),
  real_hi h1 h2 i1 i2 (hi _ _ (.inl rfl) (.inr rfl)) (hi _ _ (.inl rfl) (.inl rfl)) (hi _ _ (.inr rfl) (.inr rfl)) (hi _ _ (.inr rfl) (.inl rfl))⟩
end Go.Proofs.YtlolpmmloolieaaGreatDoor.Nc
namespace Go.Proofs.YtlolpmmloolieaaGreatDoor.Nc
open Go Go.Proofs.YtlolpmmloolieaaGreatDoor.An
open Go.Proofs.YtlolpmmloolieaaGreatDoor.Ev hiding mn zfG neg_eq sq_lt sub_eq
theorem hull_in {a b:Iv} (ha:za a=true) (hb:za b=true):za (zaY a b)=true/\(zaY a b).lo.val<=a.lo.val/\(zaY a b).lo.val<=b.lo.val/\a.hi.val<=(zaY a b).hi.val/\b.hi.val<=(zaY a b).hi.val/\((zaY a b).lo.val=a.lo.val\/(zaY a b).lo.val=b.lo.val)/\((zaY a b).hi.val=a.hi.val\/(zaY a b).hi.val=b.hi.val):=by
 have oa:=(zbW _).1 ha
 have ob:=(zbW _).1 hb
 have m1:=zfZ a.lo b.lo
 have m2:=zfj a.hi b.hi
 simp only [zaY,t_spec_HullI,Tr.get,ha,hb,Bool.not_true,cfl]
 rw [zcX (by omega)]
 exact ⟨(zbW _).2 (by simp only;omega),by simp only;omega,by simp only;omega,by simp only;omega,by simp only;omega,by simp only;omega,by simp only;omega⟩
theorem In.int {n:I64} (h: -268435455<=n.val/\n.val<=268435455):In (zi n.val) (zA n):=fun _=>by
 have e:(Rng.w .i64 (n.val*4294967296)).val=n.val*4294967296:=wi (by omega) (by omega)
 rw [int_val h]
 simp only [e,fx_unit]
 exact ⟨le_refl _,le_refl _⟩
theorem In.one:In 1 (zA ⟨1,rfl⟩):=In.int (n:=⟨1,rfl⟩) (by decide)
theorem int_ok {n:I64} (h: -268435455<=n.val/\n.val<=268435455):za (zA n)=true/\(zA n).lo.val=n.val*4294967296/\(zA n).hi.val=n.val*4294967296:=by
 have e:(Rng.w .i64 (n.val*4294967296)).val=n.val*4294967296:=wi (by omega) (by omega)
 rw [int_val h]
 exact ⟨(zbW _).2 (by simp only [e];omega),e,e⟩
theorem In.over {x:Re} {a:Iv} (h:In x a) {n:I64} (q:Nat) (hn:n.val=((q+1:Nat):Int)) (hq:q<=268435454):In (x*rat (1/((q+1:Nat):Rat))) (zU a (zA n)):=by
 have hb: -268435455<=n.val/\n.val<=268435455:=by omega
 have:=h.div_pos (In.int hb) (by rw [(int_ok hb).2.1];omega)
 have e:x/zi n.val=x*rat (1/((q+1:Nat):Rat)):=by
  rw [hn,zi_nat]
  have i:=inv_nat q
  have p:0<rat ((q+1:Nat):Rat):=nat_p (Nat.succ_pos q)
  refine eq_of_mul (ne_of_gt p) ?_
  rw [div_mul (ne_of_gt p)]
  generalize rat ((q+1:Nat):Rat)=u at *;generalize rat (1/((q+1:Nat):Rat))=v at *
  exact eq_by [x,u,v] (congrArg (fun t=>x * -t) i:x * -(u*v)=x * -1)
 rwa [e] at this
theorem ring_ok:za zH=true/\zH.lo.val= -4294967296/\zH.hi.val=4294967296:=⟨(zbW _).2 (by decide +kernel),rfl,rfl⟩
theorem fx_m1:fx (-4294967296)= -1:=by rw [zfW,fx_1]
theorem In.ring {x:Re} (h1: -1<=x) (h2:x<=1):In x zH:=fun _=>by
 rw [ring_ok.2.1,ring_ok.2.2,fx_m1,fx_1];exact ⟨h1,h2⟩
theorem In.tiny {x:Re} (h:An.abs x<=rat (1/4294967296)):In x zby:=fun _=>by
 obtain ⟨a,b⟩:=of_abs h
 have e1:zby.lo.val= -1:=rfl
 have e2:zby.hi.val=1:=rfl
 have e3:fx 1=rat (1/4294967296):=one_mul _
 rw [e1,e2,zfW,e3];exact ⟨a,b⟩
theorem meet_in (a:Iv):za (zam a)=true /\ -4294967296<=(zam a).lo.val/\(zam a).hi.val<=4294967296 /\
  ((zam a).lo.val= -4294967296\/(za a=true/\(zam a).lo.val=a.lo.val))/\((zam a).hi.val=4294967296\/(za a=true/\(zam a).hi.val=a.hi.val)):=by
 have o:=ring_ok.1
 have e1:zH.lo.val= -4294967296:=rfl
 have e2:zH.hi.val=4294967296:=rfl
 simp only [zam,t_spec_l06Meet,zbZ,zdo,Tr.get,o,Bool.not_true,cfl]
 cases ha:za a
 ·simp only [Bool.not_false,Bool.not_true,ctr,cfl];exact ⟨o,by omega,by omega,.inl e1,.inl e2⟩
 have ba:=(zbW _).1 ha
 have m1:=zfj a.lo zH.lo
 have m2:=zfZ a.hi zH.hi
 rw [e1] at m1
 rw [e2] at m2
 simp only [Bool.not_true,cfl]
 by_cases hlt:(zo a.lo zH.lo).val>(zt a.hi zH.hi).val
 ·simp only [hlt,decide_true,ctr,Bool.not_false];exact ⟨o,by omega,by omega,.inl e1,.inl e2⟩
 ·simp only [hlt,decide_false,cfl,Bool.not_true]
  refine ⟨(zbW _).2 (by first|omega|(simp only;omega)),by first|omega|(simp only;omega),by first|omega|(simp only;omega),?_,?_⟩
  ·simp only [true_and];omega
  ·simp only [true_and];omega
theorem In.meet {x:Re} {a:Iv} (h:In x a) (h1: -1<=x) (h2:x<=1):In x (zam a):=fun ok=>by
 obtain ⟨_,_,_,m1,m2⟩:=meet_in a
 constructor
 ·rcases m1 with e|⟨o,e⟩
  ·rw [e,fx_m1];exact h1
  ·rw [e];exact (h o).1
 ·rcases m2 with e|⟨o,e⟩
  ·rw [e,fx_1];exact h2
  ·rw [e];exact (h o).2
def chk (n:Int):Bool:=decide ((n*7244019458077122842)%1073741824+n<=1073741824)
def chkTo:Nat->Bool
 | 0=>true
 | n+1=>chk ((n+1:Nat):Int)&&chkTo n
theorem chk_all:chkTo 4096=true:=by kernel_rfl
theorem chk_of {n:Nat} (h:chkTo n=true) {m:Int} (h1:0<m) (h2:m<=(n:Int)):(m*7244019458077122842)%1073741824+m<=1073741824:=by
 induction n with
 | zero=>exact absurd h1 (by omega)
 | succ n ih=>
  simp only [chkTo,Bool.and_eq_true] at h
  by_cases k:m=((n+1:Nat):Int)
  ·rw [k];exact of_decide_eq_true h.1
  ·exact ih h.2 (by omega)
theorem turn_val {k:I64} (h:0<k.val) (h':k.val<=4096):(zbz k).lo.val=k.val*7244019458077122842/1073741824/\(zbz k).hi.val=k.val*7244019458077122842/1073741824+1 /\
  (zbo k).lo.val=k.val*7244019458077122842/1073741824/\(zbo k).hi.val=k.val*7244019458077122842/1073741824+1:=by
 obtain ⟨e,b1,b2⟩:=turn_lo h h'
 have e0:(k.val==0)=false:=by simp;omega
 have hd:decide (k.val<0)=false:=by simp;omega
 simp only [zbz,zcf,zbo,zcB,Tr.get,e0,hd,e,cfl]
 have e1:(Rng.w .i64 (k.val*7244019458077122842/1073741824)).val=k.val*7244019458077122842/1073741824:=wi (by omega) (by omega)
 rw [e1]
 have e2:(Rng.w .i64 (k.val*7244019458077122842/1073741824+1)).val=k.val*7244019458077122842/1073741824+1:=wi (by omega) (by omega)
 exact ⟨rfl,e2,rfl,e2⟩
theorem turn_real {k:Int} (h:0<k) (h':k<=4096):fx (k*7244019458077122842/1073741824)<=qt k/\qt k<=fx (k*7244019458077122842/1073741824+1):=by
 have hk2:=chk_of chk_all (m:=k) h (by omega)
 have f1:(k*7244019458077122842/1073741824)*1073741824<=k*7244019458077122842:=by omega
 have f2:k*7244019458077122843<=(k*7244019458077122842/1073741824+1)*1073741824:=by omega
 have g1:=zi_le.2 f1
 have g2:=zi_le.2 f2
 rw [zeH,zeH] at g1 g2
 have z0:=zi_nn (show 0<=k by omega)
 have p1:=hp_lo
 have p2:=hp_hi
 unfold fx qt
 generalize zi (k*7244019458077122842/1073741824)=q at *;generalize zi (k*7244019458077122842/1073741824+1)=q' at *;generalize zi k=z at *
 rw [show zi 1073741824=rat 1073741824 from rfl] at g1 g2
 rw [show zi 7244019458077122842=rat 7244019458077122842 from rfl] at g1
 rw [show zi 7244019458077122843=rat 7244019458077122843 from rfl] at g2
 generalize hp=p at *
 exact ⟨zaa [q,z,p] (pn (kn (1/4611686018427387904) (sn g1)) (mn z0 (sn p1))),zaa [q',z,p] (pn (kn (1/4611686018427387904) (sn g2)) (mn z0 (sn p2)))⟩
theorem In.turn {k:I64} (h: -4096<=k.val) (h':k.val<=4096):za (za2 k)=true/\fx (za2 k).lo.val<=qt k.val/\qt k.val<=fx (za2 k).hi.val:=by
 obtain ⟨g,e⟩:=turn_in h h'
 rw [e]
 by_cases k0:k.val=0
 ·have e0:(k.val==0)=true:=by simp [k0]
  have ev:zbz k=⟨⟨0,rfl⟩,⟨0,rfl⟩⟩:=by simp only [zbz,zcf,Tr.get,e0,ctr]
  rw [ev,k0]
  refine ⟨(zbW _).2 (by decide),?_,?_⟩
  ·show fx 0<=qt 0;rw [fx_0,qt_0];exact le_refl _
  ·show qt 0<=fx 0;rw [fx_0,qt_0];exact le_refl _
 by_cases kp:0<k.val
 ·obtain ⟨v1,v2,_,_⟩:=turn_val kp h'
  obtain ⟨r1,r2⟩:=turn_real kp h'
  refine ⟨(zbW _).2 ?_,by rw [v1];exact r1,by rw [v2];exact r2⟩
  rw [v1,v2];omega
 ·have en:(Rng.w .i64 (0-k.val)).val= -k.val:=by rw [wi (by omega) (by omega)];omega
  obtain ⟨_,_,v1,v2⟩:=turn_val (k:= .w .i64 (0-k.val)) (by rw [en];omega) (by rw [en];omega)
  obtain ⟨r1,r2⟩:=turn_real (k:= -k.val) (by omega) (by omega)
  rw [en] at v1 v2
  have e0:(k.val==0)=false:=by simp [k0]
  have hd:decide (k.val<0)=true:=by simp;omega
  obtain ⟨x,h1,h2,h3⟩:=turn_p (.w .i64 (0-k.val)) (by rw [en];omega) (by rw [en];omega)
  have g1:zdK (.w .i64 (0-k.val))=true:=by unfold zdK;rw [h1];rfl
  have w1:(Rng.w .i64 (0-(zbo (.w .i64 (0-k.val))).hi.val)).val= -(-k.val*7244019458077122842/1073741824+1):=by rw [v2,wi (by omega) (by omega)];omega
  have w2:(Rng.w .i64 (0-(zbo (.w .i64 (0-k.val))).lo.val)).val= -(-k.val*7244019458077122842/1073741824):=by rw [v1,wi (by omega) (by omega)];omega
  have ev:zbz k=⟨.w .i64 (0-(zbo (.w .i64 (0-k.val))).hi.val),.w .i64 (0-(zbo (.w .i64 (0-k.val))).lo.val)⟩:=by
   simp only [zbz,zcf,Tr.get,e0,hd,g1,ctr,cfl]
  rw [ev]
  simp only [w1,w2]
  have qn':=qt_neg k.val
  rw [qn'] at r1 r2
  refine ⟨(zbW _).2 (by simp only [w1,w2];omega),?_,?_⟩
  ·rw [zfW];generalize fx (-k.val*7244019458077122842/1073741824+1)=u at *;generalize qt k.val=v at *;exact zaa [u,v] (sn r2)
  ·rw [zfW];generalize fx (-k.val*7244019458077122842/1073741824)=u at *;generalize qt k.val=v at *;exact zaa [u,v] (sn r1)
theorem In.turn' {k:I64} (h: -4096<=k.val) (h':k.val<=4096):In (qt k.val) (za2 k):=fun _=>(In.turn h h').2
def rad (n:Int):Re:=zi n*(hp*rat (1/900000000))
theorem rad_neg (n:Int):rad (-n)= - rad n:=by unfold rad;rw [zi_neg,An.neg_mul]
theorem rad_0:rad 0=0:=An.zero_mul _
theorem rad_real {n:Int} (h:0<n):fx (n*7244019458077122842/966367641600000000)<=rad n/\rad n<=fx (n*7244019458077122843/966367641600000000+1):=by
 have f1:(n*7244019458077122842/966367641600000000)*966367641600000000<=n*7244019458077122842:=by omega
 have f2:n*7244019458077122843<=(n*7244019458077122843/966367641600000000+1)*966367641600000000:=by omega
 have g1:=zi_le.2 f1
 have g2:=zi_le.2 f2
 rw [zeH,zeH] at g1 g2
 have z0:=zi_nn (show 0<=n by omega)
 have p1:=hp_lo
 have p2:=hp_hi
 unfold fx rad
 generalize zi (n*7244019458077122842/966367641600000000)=q at *;generalize zi (n*7244019458077122843/966367641600000000+1)=q' at *;generalize zi n=z at *
 rw [show zi 966367641600000000=rat 966367641600000000 from rfl] at g1 g2
 rw [show zi 7244019458077122842=rat 7244019458077122842 from rfl] at g1
 rw [show zi 7244019458077122843=rat 7244019458077122843 from rfl] at g2
 generalize hp=p at *
 exact ⟨zaa [q,z,p] (pn (kn (1/4150517416584649113600000000) (sn g1)) (kn (1/900000000) (mn z0 (sn p1)))),zaa [q',z,p] (pn (kn (1/4150517416584649113600000000) (sn g2)) (kn (1/900000000) (mn z0 (sn p2))))⟩
theorem rad_val {n:I64} (h:0<n.val) (h':n.val<=36000000000):((zX n).lo.val=n.val*7244019458077122842/966367641600000000/\(zX n).hi.val=n.val*7244019458077122843/966367641600000000+1) /\
  ((zb6 n).lo.val=n.val*7244019458077122842/966367641600000000/\(zb6 n).hi.val=n.val*7244019458077122843/966367641600000000+1)/\zd4 n=true:=by
 have e0:(n.val==0)=false:=by simp;omega
 have hd:decide (n.val<0)=false:=by simp;omega
 have hi:zV n ⟨(-36000000000),rfl⟩ ⟨36000000000,rfl⟩=true:=by rw [zed];simp;omega
 have m1:zaO n ⟨7244019458077122842,rfl⟩ ⟨966367641600000000,rfl⟩=⟨.w .i64 (n.val*7244019458077122842/966367641600000000),true⟩:=by
  rw [zdH,MD,if_pos (by decide)];exact narrow_ok (by simp only;omega) (by simp only;omega)
 have m2:zaO n ⟨7244019458077122843,rfl⟩ ⟨966367641600000000,rfl⟩=⟨.w .i64 (n.val*7244019458077122843/966367641600000000),true⟩:=by
  rw [zdH,MD,if_pos (by decide)];exact narrow_ok (by simp only;omega) (by simp only;omega)
 have w1:(Rng.w .i64 (n.val*7244019458077122842/966367641600000000)).val=n.val*7244019458077122842/966367641600000000:=wi (by omega) (by omega)
 have w2:(Rng.w .i64 (n.val*7244019458077122843/966367641600000000)).val=n.val*7244019458077122843/966367641600000000:=wi (by omega) (by omega)
 have w3:(Rng.w .i64 (n.val*7244019458077122843/966367641600000000+1)).val=n.val*7244019458077122843/966367641600000000+1:=wi (by omega) (by omega)
 refine ⟨?_,?_,?_⟩
 ·simp only [zX,zbn,Tr.get,hi,e0,hd,m1,m2,md_G_spec,ctr,cfl,Bool.not_true,w1,w2,w3,and_self]
 ·simp only [zb6,zbA,Tr.get,hi,e0,hd,m1,m2,md_G_spec,ctr,cfl,Bool.not_true,w1,w2,w3,and_self]
 ·simp only [zd4,zbA,Tr.opt,hi,e0,hd,m1,m2,md_G_spec,ctr,cfl,Bool.not_true,Option.isSome]
theorem In.rad {n:I64}:In (rad n.val) (zX n):=by
 by_cases hr: -36000000000<=n.val/\n.val<=36000000000
 ·have hi:zV n ⟨(-36000000000),rfl⟩ ⟨36000000000,rfl⟩=true:=by rw [zed];simpa using hr
  by_cases k0:n.val=0
  ·have e0:(n.val==0)=true:=by simp [k0]
   have ev:zX n=⟨⟨0,rfl⟩,⟨0,rfl⟩⟩:=by simp only [zX,zbn,Tr.get,hi,e0,ctr,cfl,Bool.not_true]
   rw [ev,k0]
   intro _
   show fx 0<=Nc.rad 0/\Nc.rad 0<=fx 0
   rw [fx_0,rad_0];exact ⟨le_refl _,le_refl _⟩
  by_cases kp:0<n.val
  ·intro _
   rw [(rad_val kp hr.2).1.1,(rad_val kp hr.2).1.2]
   exact rad_real kp
  ·have en:(Rng.w .i64 (0-n.val)).val= -n.val:=by rw [wi (by omega) (by omega)];omega
   obtain ⟨_,⟨v1,v2⟩,g⟩:=rad_val (n:= .w .i64 (0-n.val)) (by rw [en];omega) (by rw [en];omega)
   have e0:(n.val==0)=false:=by simp [k0]
   have hd:decide (n.val<0)=true:=by simp;omega
   simp only [zX,zbn,Tr.get,hi,e0,hd,g,ctr,cfl,Bool.not_true]
   have:In (Nc.rad (-n.val)) (zb6 (.w .i64 (0-n.val))):=fun _=>by
    rw [v1,v2,en];exact rad_real (by omega)
   have:=this.neg
   rw [rad_neg] at this
   rwa [show - - Nc.rad n.val=Nc.rad n.val from by generalize Nc.rad n.val=u;exact An.ring [u]] at this
 ·have hi:zV n ⟨(-36000000000),rfl⟩ ⟨36000000000,rfl⟩=false:=by rw [zed];simpa using hr
  simp only [zX,zbn,Tr.get,hi,Bool.not_false,ctr,zeT]
  exact In.whole _
end Go.Proofs.YtlolpmmloolieaaGreatDoor.Nc
namespace Go.Proofs.YtlolpmmloolieaaGreatDoor.Nc
open Go Go.Proofs.YtlolpmmloolieaaGreatDoor.An
open Go.Proofs.YtlolpmmloolieaaGreatDoor.Ev hiding mn zfG neg_eq sq_lt sub_eq
theorem In.over' {x:Re} {a:Iv} (h:In x a) {n:I64} (q:Nat) (r:Rat) (hn:n.val=((q+1:Nat):Int):=by kernel_rfl) (hq:decide (q<=268435454)=true:=by kernel_rfl) (hr:1/((q+1:Nat):Rat)=r:=by kernel_rfl):In (x*rat r) (zU a (zA n)):=by
 rw [<- hr];exact h.over q hn (of_decide_eq_true hq)
theorem In.series0 {y:Re} {a:Iv} (h:In y a):In (1-y*rat (1/6)*(1-y*rat (1/20)*(1-y*rat (1/42)*(1-y*rat (1/72)*(1-y*rat (1/110)*(1-y*rat (1/156)*(1-y*rat (1/210)*(1-y*rat (1/272)*1)))))))) (zaI a ⟨0,rfl⟩):=by
 simp only [zaI,zcA,Tr.get]
 exact (In.sub In.one (In.mul (h.over' 5 (1/6)) (In.sub In.one (In.mul (h.over' 19 (1/20)) (In.sub In.one (In.mul (h.over' 41 (1/42)) (In.sub In.one (In.mul (h.over' 71 (1/72)) (In.sub In.one (In.mul (h.over' 109 (1/110)) (In.sub In.one (In.mul (h.over' 155 (1/156)) (In.sub In.one (In.mul (h.over' 209 (1/210)) (In.sub In.one (In.mul (h.over' 271 (1/272)) In.one))))))))))))))))
theorem In.series1 {y:Re} {a:Iv} (h:In y a):In (1-y*rat (1/2)*(1-y*rat (1/12)*(1-y*rat (1/30)*(1-y*rat (1/56)*(1-y*rat (1/90)*(1-y*rat (1/132)*(1-y*rat (1/182)*(1-y*rat (1/240)*1)))))))) (zaI a ⟨-1,rfl⟩):=by
 simp only [zaI,zcA,Tr.get]
 exact (In.sub In.one (In.mul (h.over' 1 (1/2)) (In.sub In.one (In.mul (h.over' 11 (1/12)) (In.sub In.one (In.mul (h.over' 29 (1/30)) (In.sub In.one (In.mul (h.over' 55 (1/56)) (In.sub In.one (In.mul (h.over' 89 (1/90)) (In.sub In.one (In.mul (h.over' 131 (1/132)) (In.sub In.one (In.mul (h.over' 181 (1/182)) (In.sub In.one (In.mul (h.over' 239 (1/240)) In.one))))))))))))))))
theorem ring_in {a:Iv} (h:zaV a zH=true):za a=true /\ -4294967296<=a.lo.val/\a.hi.val<=4294967296:=by
 have e1:zH.lo.val= -4294967296:=rfl
 have e2:zH.hi.val=4294967296:=rfl
 simp only [zaV,t_spec_InsideI,Tr.get,ring_ok.1,Bool.not_true,cfl,e1,e2] at h
 revert h
 cases za a<;>by_cases h1: -4294967296<=a.lo.val<;>simp [h1,ctr,cfl]
theorem In.abs1 {x:Re} {a:Iv} (h:In x a) (k:zaV a zH=true):An.abs x<=1:=by
 obtain ⟨o,k1,k2⟩:=ring_in k
 obtain ⟨h1,h2⟩:=h o
 have l1:=fx_le.2 k1
 have l2:=fx_le.2 k2
 rw [fx_m1] at l1
 rw [fx_1] at l2
 exact abs_le (le_trans l1 h1) (le_trans h2 l2)
theorem In.sinS {x:Re} {a:Iv} (h:In x a):In (sin x) (zaR a):=by
 simp only [zaR,ze5,Tr.get,zeT]
 cases hi:zaV a zH
 ·exact In.whole _
 simp only [Bool.not_true,cfl]
 have e:=le_trans (sin_horner (h.abs1 hi)) (num_le _ (1/4294967296))
 have:=(h.mul h.sqr.series0).add (In.tiny e)
 generalize x*(1-(x*x)*rat (1/6)*(1-(x*x)*rat (1/20)*(1-(x*x)*rat (1/42)*(1-(x*x)*rat (1/72)*(1-(x*x)*rat (1/110)*(1-(x*x)*rat (1/156)*(1-(x*x)*rat (1/210)*(1-(x*x)*rat (1/272)*1))))))))=u at *;generalize sin x=s at *
 rwa [show u+(s-u)=s from An.ring [u,s]] at this
theorem In.cosS {x:Re} {a:Iv} (h:In x a):In (cos x) (zaS a):=by
 simp only [zaS,ze7,Tr.get,zeT]
 cases hi:zaV a zH
 ·exact In.whole _
 simp only [Bool.not_true,cfl]
 have e:=le_trans (cos_horner (h.abs1 hi)) (num_le _ (1/4294967296))
 have:=h.sqr.series1.add (In.tiny e)
 generalize (1-(x*x)*rat (1/2)*(1-(x*x)*rat (1/12)*(1-(x*x)*rat (1/30)*(1-(x*x)*rat (1/56)*(1-(x*x)*rat (1/90)*(1-(x*x)*rat (1/132)*(1-(x*x)*rat (1/182)*(1-(x*x)*rat (1/240)*1))))))))=u at *;generalize cos x=s at *
 rwa [show u+(s-u)=s from An.ring [u,s]] at this
def and4 (x:Int):Bool:=(Rng.w .i64 (zaN .and .i64 (Rng.w .i64 x).val 3)).val==x%4
def and4To:Nat->Bool
 | 0=>and4 0
 | n+1=>and4 (n+1:Nat)&&(and4 (-((n+1:Nat):Int))&&and4To n)
theorem and4_all:and4To 600=true:=by kernel_rfl
theorem and4_of {n:Nat} (h:and4To n=true) {m:Int} (h1: -(n:Int)<=m) (h2:m<=n):(Rng.w .i64 (zaN .and .i64 (Rng.w .i64 m).val 3)).val=m%4:=by
 induction n with
 | zero=>
  have:m=0:=by omega
  subst this
  exact eq_of_beq h
 | succ n ih=>
  simp only [and4To,Bool.and_eq_true] at h
  by_cases k1:m=((n+1:Nat):Int)
  ·have:=h.1
   rw [<- k1] at this
   exact eq_of_beq this
  by_cases k2:m= -((n+1:Nat):Int)
  ·have:=h.2.1
   rw [<- k2] at this
   exact eq_of_beq this
  exact ih h.2.2 (by omega) (by omega)
theorem and4_eq {m:Int} (h1: -600<=m) (h2:m<=600):(Rng.w .i64 (zaN .and .i64 (Rng.w .i64 m).val 3)).val=m%4:=and4_of and4_all h1 h2
theorem sin_in (x:Re): -1<=sin x/\sin x<=1:=⟨sin_gem1 x,sin_le1 x⟩
theorem In.at {n t:I64} (ht:0<=t.val/\t.val<=3):In (sin (fx n.val+qt t.val)) (zbl n t):=by
 have hs:=sin_in (fx n.val+qt t.val)
 simp only [zbl,t_spec_l06At,Tr.get]
 cases zaK n
 ·exact In.ring hs.1 hs.2
 have hb:=quarter_bd n
 have h4:=and4_eq (m:=(zad n).val+t.val) (by omega) (by omega)
 have hk:In (fx n.val-qt (zad n).val) (zO (F_spec_l05At n) (za2 (zad n))):=by
  refine In.sub ?_ (In.turn' (by omega) (by omega))
  simp only [F_spec_l05At,t_spec_l05At,Tr.get]
  exact In.point
 simp only [Bool.not_true,cfl,h4]
 generalize zO (F_spec_l05At n) (za2 (zad n))=c at hk
 have e:fx n.val+qt t.val=(fx n.val-qt (zad n).val)+qt ((zad n).val+t.val):=by
  rw [qt_add];generalize fx n.val=u;generalize qt (zad n).val=v;generalize qt t.val=w;exact An.ring [u,v,w]
 rw [e] at hs ⊢
 generalize fx n.val-qt (zad n).val=r at *
 generalize (zad n).val+t.val=k at *
 have hk4:k%4=0\/k%4=1\/k%4=2\/k%4=3:=by omega
 rcases hk4 with h|h|h|h
 ·have e0:(k%4==0)=true:=by simp [h]
  simp only [e0,ctr]
  rw [sin_q0 r h] at hs ⊢
  exact hk.sinS.meet hs.1 hs.2
 ·have e0:(k%4==0)=false:=by simp [h]
  have e1:(k%4==1)=true:=by simp [h]
  simp only [e0,e1,ctr,cfl]
  rw [sin_q1 r h] at hs ⊢
  exact hk.cosS.meet hs.1 hs.2
 ·have e0:(k%4==0)=false:=by simp [h]
  have e1:(k%4==1)=false:=by simp [h]
  have e2:(k%4==2)=true:=by simp [h]
  simp only [e0,e1,e2,ctr,cfl]
  rw [sin_q2 r h] at hs ⊢
  exact hk.sinS.neg.meet hs.1 hs.2
 ·have e0:(k%4==0)=false:=by simp [h]
  have e1:(k%4==1)=false:=by simp [h]
  have e2:(k%4==2)=false:=by simp [h]
  simp only [e0,e1,e2,cfl]
  rw [sin_q3 r h] at hs ⊢
  exact hk.cosS.neg.meet hs.1 hs.2
theorem ring_bd:za zH=true /\ -4294967296<=zH.lo.val/\zH.hi.val<=4294967296:=⟨ring_ok.1,by rw [ring_ok.2.1];decide,by rw [ring_ok.2.2];decide⟩
theorem at_in (n t:I64):za (zbl n t)=true /\ -4294967296<=(zbl n t).lo.val/\(zbl n t).hi.val<=4294967296:=by
 have m:∀a,za (zam a)=true /\ -4294967296<=(zam a).lo.val/\(zam a).hi.val<=4294967296:=fun a=>⟨(meet_in a).1,(meet_in a).2.1,(meet_in a).2.2.1⟩
 simp only [zbl,t_spec_l06At,Tr.get]
 cases zaK n
 ·exact ring_bd
 simp only [Bool.not_true,cfl]
 generalize ((Rng.w .i64 (zaN .and .i64 (Rng.w .i64 ((zad n).val+t.val)).val 3)).val==0)=c0
 generalize ((Rng.w .i64 (zaN .and .i64 (Rng.w .i64 ((zad n).val+t.val)).val 3)).val==1)=c1
 generalize ((Rng.w .i64 (zaN .and .i64 (Rng.w .i64 ((zad n).val+t.val)).val 3)).val==2)=c2
 cases c0<;>cases c1<;>cases c2<;>exact m _
theorem quarter_all {n:I64} (h: -1099511627776<=n.val/\n.val<=1099511627776):(zad n).val=(n.val+3373259426)/6746518852:=by
 have ha:zaK n=true:=by simp only [zaK,zd6,Tr.get,zed];simpa using h
 have hb:=h
 have e1:(Rng.w .i64 (n.val+3373259426)).val=n.val+3373259426:=wi (by omega) (by omega)
 have hs:Int.sign 6746518852=1:=rfl
 have ht:=Int.tdiv_eq_ediv (a:=n.val+3373259426) (b:=6746518852)
 have q1:(Rng.w .i64 ((n.val+3373259426).tdiv 6746518852)).val=(n.val+3373259426).tdiv 6746518852:=by
  refine wi ?_ ?_<;>(split at ht<;>omega)
 have hm:=Int.mul_tdiv_add_tmod (n.val+3373259426) 6746518852
 have m1:(Rng.w .i64 ((n.val+3373259426).tmod 6746518852)).val=(n.val+3373259426).tmod 6746518852:=by
  refine wi ?_ ?_<;>(split at ht<;>omega)
 have z:((6746518852:Int)==0)=false:=rfl
 simp only [zad,ze6,Tr.get,ha,Bool.not_true,cfl,G_spec_l06Floor,F_spec_l06Floor,zfx,Tr.opt,Tr.get,e1,q1,m1,z]
 by_cases hc:(n.val+3373259426).tmod 6746518852<0
 ·have w1:(Rng.w .i64 ((n.val+3373259426).tdiv 6746518852-1)).val=(n.val+3373259426).tdiv 6746518852-1:=by
   refine wi ?_ ?_<;>(split at ht<;>omega)
  simp only [hc,decide_true,ctr,Option.isSome_some,w1]
  split at ht<;>omega
 ·simp only [hc,decide_false,cfl,ctr,Option.isSome_some,q1]
  split at ht<;>omega
theorem overlap_of {a b:Iv} (ha:za a=true) (hb:za b=true) (h1:a.lo.val<=b.hi.val) (h2:b.lo.val<=a.hi.val):zat a b=true:=by
 have oa:=(zbW _).1 ha
 have ob:=(zbW _).1 hb
 have m1:=zfj a.lo b.lo
 have m2:=zfZ a.hi b.hi
 have hn:¬(zo a.lo b.lo).val>(zt a.hi b.hi).val:=by omega
 simp only [zat,zc9,zbZ,zdo,Tr.get,ha,hb,Bool.not_true,cfl,hn,decide_false]
theorem keepF_mem (x:Iv) (k':I64) (h1:k'.val<=(k1 x).val) (h2:zat (za2 k') x=true) (h3:(k1 x).val<=1000):
  ∀(n:Nat) (k:I64),-1000<=k.val->k.val<=k'.val->k'.val-k.val<n->k'∈keepF x n k:=by
 intro n
 induction n with
 | zero=>intro k _ _ h;omega
 | succ n ih=>
  intro k hl hk hn
  have hd:decide (k.val<=(k1 x).val)=true:=by simp;omega
  have en:(Rng.w .i64 (k.val+1)).val=k.val+1:=wi (by omega) (by omega)
  simp only [keepF,hd,ctr,overlap_eq,turnI_eq]
  by_cases e:k.val=k'.val
  ·have e':k=k':=Rng.ext e
   subst e'
   simp only [h2,ctr]
   exact List.mem_cons_self ..
  ·have:=ih (.w .i64 (k.val+1)) (by omega) (by omega) (by omega)
   cases zat (za2 k) x
   ·exact this
   ·exact List.mem_cons_of_mem _ this
theorem one_val:za (zA ⟨1,rfl⟩)=true/\(zA ⟨1,rfl⟩).lo.val=4294967296/\(zA ⟨1,rfl⟩).hi.val=4294967296:=int_ok (n:=⟨1,rfl⟩) (by decide)
theorem mone_val:za (zA ⟨-1,rfl⟩)=true/\(zA ⟨-1,rfl⟩).lo.val= -4294967296/\(zA ⟨-1,rfl⟩).hi.val= -4294967296:=int_ok (n:=⟨-1,rfl⟩) (by decide)
theorem hullF_in (t:I64):∀(L:List I64) (o:Iv),za o=true->za (hullF t L o)=true/\(hullF t L o).lo.val<=o.lo.val/\o.hi.val<=(hullF t L o).hi.val /\
  (∀k∈L,(turn4 t k).val=1->4294967296<=(hullF t L o).hi.val)/\(∀k∈L,(turn4 t k).val=3->(hullF t L o).lo.val <= -4294967296):=by
 intro L
 induction L with
 | nil=>intro o ho;exact ⟨ho,Int.le_refl _,Int.le_refl _,(fun k h=>by cases h),(fun k h=>by cases h)⟩
 | cons k L ih=>
  intro o ho
  simp only [hullF,hull_eq,integer_eq]
  by_cases c1:(turn4 t k).val=1
  ·have e1:((turn4 t k).val==1)=true:=by simp [c1]
   simp only [e1,ctr]
   have hv:=hull_in ho one_val.1
   obtain ⟨i1,i2,i3,i4,i5⟩:=ih _ hv.1
   have o1:=one_val.2.2
   refine ⟨i1,by omega,by omega,fun j hj h=>?_,fun j hj h=>?_⟩
   ·rcases List.mem_cons.1 hj with rfl|hj
    ·omega
    ·exact i4 j hj h
   ·rcases List.mem_cons.1 hj with rfl|hj
    ·omega
    ·exact i5 j hj h
  ·have e1:((turn4 t k).val==1)=false:=by simp [c1]
   simp only [e1,cfl]
   by_cases c3:(turn4 t k).val=3
   ·have e3:((turn4 t k).val==3)=true:=by simp [c3]
    simp only [e3,ctr]
    have hv:=hull_in ho mone_val.1
    obtain ⟨i1,i2,i3,i4,i5⟩:=ih _ hv.1
    have o1:=mone_val.2.1
    refine ⟨i1,by omega,by omega,fun j hj h=>?_,fun j hj h=>?_⟩
    ·rcases List.mem_cons.1 hj with rfl|hj
     ·omega
     ·exact i4 j hj h
    ·rcases List.mem_cons.1 hj with rfl|hj
     ·omega
     ·exact i5 j hj h
   ·have e3:((turn4 t k).val==3)=false:=by simp [c3]
    simp only [e3,cfl]
    obtain ⟨i1,i2,i3,i4,i5⟩:=ih _ ho
    refine ⟨i1,by omega,by omega,fun j hj h=>?_,fun j hj h=>?_⟩
    ·rcases List.mem_cons.1 hj with rfl|hj
     ·omega
     ·exact i4 j hj h
    ·rcases List.mem_cons.1 hj with rfl|hj
     ·omega
     ·exact i5 j hj h
theorem qt_ge {k a:Int} (h:fx a<=qt k):(0<=k/\a*1073741824<=k*7244019458077122843)\/(k<0/\a*1073741824<=k*7244019458077122842):=by
 have p1:=hp_lo
 have p2:=hp_hi
 by_cases hk:0<=k
 ·left;refine ⟨hk,zi_le.1 ?_⟩
  have z0:=zi_nn hk
  rw [zeH,zeH,show zi 1073741824=rat 1073741824 from rfl,show zi 7244019458077122843=rat 7244019458077122843 from rfl]
  unfold fx qt at h
  generalize zi k=z at *;generalize zi a=u at *;generalize hp=p at *
  exact zaa [u,z,p] (pn (kn 4611686018427387904 (sn h)) (kn 4611686018427387904 (mn z0 (sn p2))))
 ·right;refine ⟨by omega,zi_le.1 ?_⟩
  have z0:=zi_le.2 (show k<=0 by omega)
  rw [zi_0] at z0
  rw [zeH,zeH,show zi 1073741824=rat 1073741824 from rfl,show zi 7244019458077122842=rat 7244019458077122842 from rfl]
  unfold fx qt at h
  generalize zi k=z at *;generalize zi a=u at *;generalize hp=p at *
  exact zaa [u,z,p] (pn (kn 4611686018427387904 (sn h)) (kn 4611686018427387904 (mn (neg_nn z0) (sn p1))))
theorem qt_le {k b:Int} (h:qt k<=fx b):(0<=k/\k*7244019458077122842<=b*1073741824)\/(k<0/\k*7244019458077122843<=b*1073741824):=by
 have e:fx (-b)<=qt (-k):=by rw [zfW,qt_neg];generalize fx b=u at *;generalize qt k=v at *;exact zaa [u,v] (sn h)
 have:=qt_ge e
 omega
theorem In.over06 {x:Re} {a:Iv} (h:In x a) {t:I64} (ht:0<=t.val/\t.val<=3):In (sin (x+qt t.val)) (F_spec_l06Over a t):=by
 have hs:=sin_in (x+qt t.val)
 rw [<- over_eq]
 unfold zaA
 rw [fits_eq,ring_eq]
 cases hf:zdS a
 ·exact In.ring hs.1 hs.2
 simp only [Bool.not_true,cfl]
 have hfit:za a=true/\(-1099511627776<=a.lo.val/\a.lo.val<=1099511627776)/\(-1099511627776<=a.hi.val/\a.hi.val<=1099511627776):=by
  simp only [zdS,t_spec_l06Fits,Tr.get,F_spec_ValidInterval,t_spec_ValidInterval,zaK,zd6,zed] at hf
  revert hf
  cases za a<;>by_cases c1: -1099511627776<=a.lo.val/\a.lo.val<=1099511627776<;>by_cases c2: -1099511627776<=a.hi.val/\a.hi.val<=1099511627776<;>simp [c1,c2,ctr,cfl]
 obtain ⟨oa,⟨l1,l2⟩,⟨u1,u2⟩⟩:=hfit
 obtain ⟨h1,h2⟩:=h oa
 have ho:o0 a t=zaY (zbl a.lo t) (zbl a.hi t):=by unfold o0;rw [hull_eq,circle_eq,circle_eq]
 have v1:=at_in a.lo t
 have v2:=at_in a.hi t
 have hv:=hull_in v1.1 v2.1
 rw [ho]
 obtain ⟨i1,i2,i3,i4,i5⟩:=hullF_in t (keepF a 1000 (k0 a)) _ hv.1
 have a1:=In.at (n:=a.lo) ht v1.1
 have a2:=In.at (n:=a.hi) ht v2.1
 have kb:=k_bd a
 have q0:(k0 a).val=(a.lo.val+3373259426)/6746518852-1:=by
  have qb:=quarter_bd a.lo
  unfold k0;rw [zfY,wi (by omega) (by omega),quarter_all ⟨l1,l2⟩]
 have q1:(k1 a).val=(a.hi.val+3373259426)/6746518852+1:=by
  have qb:=quarter_bd a.hi
  unfold k1;rw [zfY,wi (by omega) (by omega),quarter_all ⟨u1,u2⟩]
 have mem:∀j:Int,fx a.lo.val<=qt j->qt j<=fx a.hi.val->∃k:I64,k.val=j/\k∈keepF a 1000 (k0 a)/\(turn4 t k).val=(j+t.val)%4:=fun j j1 j2=>by
  have g1:=qt_ge j1
  have g2:=qt_le j2
  have jb: -200<=j/\j<=200:=by omega
  have ek:(Rng.w .i64 j).val=j:=wi (by omega) (by omega)
  refine ⟨.w .i64 j,ek,?_,?_⟩
  ·obtain ⟨t1,t2,t3⟩:=In.turn (k:= .w .i64 j) (by omega) (by omega)
   rw [ek] at t2 t3
   refine keepF_mem a _ (by omega) (overlap_of t1 oa (fx_le.1 (le_trans t2 j2)) (fx_le.1 (le_trans j1 t3))) (by omega) 1000 (k0 a) (by omega) (by omega) (by omega)
  ·unfold turn4;rw [ek];exact and4_eq (by omega) (by omega)
 intro _
 have mv:∀ {p q:Re},p<=q->∀j:Int,p+qt t.val<=qt j->p<=qt (j-t.val):=fun {p q} _ j hj=>by
  have e:=qt_add (j-t.val) t.val
  rw [show j-t.val+t.val=j by omega] at e
  rw [e] at hj
  generalize qt (j-t.val)=u at *;generalize qt t.val=v at *
  exact zaa [p,u,v] (sn hj)
 have mv':∀ {p:Re},∀j:Int,qt j<=p+qt t.val->qt (j-t.val)<=p:=fun {p} j hj=>by
  have e:=qt_add (j-t.val) t.val
  rw [show j-t.val+t.val=j by omega] at e
  rw [e] at hj
  generalize qt (j-t.val)=u at *;generalize qt t.val=v at *
  exact zaa [p,u,v] (sn hj)
 constructor
 ·rcases sin_bottom (zeI h1 (le_refl (qt t.val))) (zeI h2 (le_refl (qt t.val))) with c|c|⟨j,j4,j1,j2⟩
  ·exact le_trans (le_trans (fx_le.2 (Int.le_trans i2 hv.2.1)) a1.1) c
  ·exact le_trans (le_trans (fx_le.2 (Int.le_trans i2 hv.2.2.1)) a2.1) c
  ·obtain ⟨k,k1',k2,k3⟩:=mem (j-t.val) (mv (le_refl (fx a.lo.val)) j j1) (mv' j j2)
   have:=i5 k k2 (by omega)
   refine le_trans ?_ hs.1
   rw [<- fx_m1];exact fx_le.2 this
 ·rcases sin_top (zeI h1 (le_refl (qt t.val))) (zeI h2 (le_refl (qt t.val))) with c|c|⟨j,j4,j1,j2⟩
  ·exact le_trans c (le_trans a1.2 (fx_le.2 (Int.le_trans hv.2.2.2.1 i3)))
  ·exact le_trans c (le_trans a2.2 (fx_le.2 (Int.le_trans hv.2.2.2.2.1 i3)))
  ·obtain ⟨k,k1',k2,k3⟩:=mem (j-t.val) (mv (le_refl (fx a.lo.val)) j j1) (mv' j j2)
   have:=i4 k k2 (by omega)
   refine le_trans hs.2 ?_
   rw [<- fx_1];exact fx_le.2 this
theorem In.sin {x:Re} {a:Iv} (h:In x a):In (An.sin x) (za9 a):=by
 have:=h.over06 (t:=⟨0,rfl⟩) (by decide)
 rw [show ((⟨0,rfl⟩:I64).val)=0 from rfl,qt_0,An.add_zero] at this
 simp only [za9,t_spec_SinI,Tr.get]
 exact this
theorem In.cos {x:Re} {a:Iv} (h:In x a):In (An.cos x) (zbi a):=by
 have:=h.over06 (t:=⟨1,rfl⟩) (by decide)
 rw [show ((⟨1,rfl⟩:I64).val)=1 from rfl,sin_q1 x (by decide)] at this
 simp only [zbi,t_spec_CosI,Tr.get]
 exact this
end Go.Proofs.YtlolpmmloolieaaGreatDoor.Nc
namespace Go.Proofs.YtlolpmmloolieaaGreatDoor.Nc
open Go Go.Proofs.YtlolpmmloolieaaGreatDoor.An
open Go.Proofs.YtlolpmmloolieaaGreatDoor.Ev hiding mn zfG neg_eq sq_lt sub_eq
theorem divdown_neg {x y:I64} (hy:y.val<0) (h:(zD x y).b=true):(zD x y).a.val= -x.val*4294967296 / -y.val:=by
 have z0:(y.val==0)=false:=by simp;omega
 have z1:decide (y.val<0)=true:=by simpa using hy
 simp only [zD,zbt,Tr.get,zdH,z0,z1,ctr,cfl] at h ⊢
 cases h1:zB x
 ·rw [h1] at h;simp [ctr] at h
 cases h2:zB y
 ·rw [h1,h2] at h;simp [ctr,cfl] at h
 have bx:=ok_bd h1
 have by':=ok_bd h2
 have ex:(Rng.w .i64 (0-x.val)).val= -x.val:=by rw [wi (by omega) (by omega)];omega
 have ey:(Rng.w .i64 (0-y.val)).val= -y.val:=by rw [wi (by omega) (by omega)];omega
 rw [h1,h2] at h
 have hp:0 < -y.val:=by omega
 simp only [Bool.not_true,cfl,MD,ex,ey,hp,if_true] at h ⊢
 unfold narrow at h ⊢
 split at h
 ·rename_i hr
  rw [if_pos hr]
  rcases end_cases (.w .i64 (-x.val*4294967296 / -y.val)) true with e|⟨e,_⟩
  ·rw [e] at h;cases h
  ·rw [e];exact wi hr.1 hr.2
 ·have:(zae (.w .i64 0) false).b=false:=by simp only [zae,zce,Tr.get,Bool.not_false,ctr]
  rw [this] at h;cases h
theorem divup_neg {x y:I64} (hy:y.val<0) (h:(zN x y).b=true):(zN x y).a.val= -(x.val*4294967296 / -y.val):=by
 simp only [zN,zc8,Tr.get] at h ⊢
 cases h1:zB x
 ·rw [h1] at h;simp [ctr] at h
 rw [h1] at h
 simp only [Bool.not_true,cfl] at h ⊢
 have hb:=ok_bd h1
 have e:=divdown_neg hy h
 have en:(Rng.w .i64 (0-x.val)).val= -x.val:=by rw [wi (by omega) (by omega)];omega
 rw [en,Int.neg_neg] at e
 rcases zdy (.w .i64 (0-x.val)) y with k|⟨c,k,kc⟩
 ·rw [k] at h;cases h
 ·have kb:=ok_bd kc
  rw [k] at e ⊢
  simp only at e ⊢
  rw [wi (by omega) (by omega)]
  omega
theorem divI_corner_neg {a b:Iv} (h0:b.hi.val<0) (h:za (zU a b)=true):za a=true/\za b=true /\
  ∀x y:I64,(x=a.lo\/x=a.hi)->(y=b.lo\/y=b.hi)->(zU a b).lo.val <= -x.val*4294967296 / -y.val /\ -(x.val*4294967296 / -y.val)<=(zU a b).hi.val:=by
 have nw:∀ {P:Prop},za zn=true->P:=fun h=>by rw [zcH] at h;cases h
 simp only [zU,zfX,Tr.get] at h ⊢
 cases ha:za a
 ·rw [ha] at h;exact nw h
 cases hb:za b
 ·rw [ha,hb] at h;exact nw h
 have bb:=(zbW _).1 hb
 have h0':b.lo.val<0:=by omega
 cases hz:zaL b ⟨0,rfl⟩
 case true=>rw [ha,hb,hz] at h;exact nw h
 simp only [ha,hb,hz,Bool.not_true,cfl] at h ⊢
 cases h1:(zD a.lo b.lo).b
 ·rw [h1] at h;exact nw h
 cases h2:(zN a.lo b.lo).b
 ·rw [h1,h2] at h;exact nw h
 cases h3:(zD a.lo b.hi).b
 ·rw [h1,h2,h3] at h;exact nw h
 cases h4:(zN a.lo b.hi).b
 ·rw [h1,h2,h3,h4] at h;exact nw h
 cases h5:(zD a.hi b.lo).b
 ·rw [h1,h2,h3,h4,h5] at h;exact nw h
 cases h6:(zN a.hi b.lo).b
 ·rw [h1,h2,h3,h4,h5,h6] at h;exact nw h
 cases h7:(zD a.hi b.hi).b
 ·rw [h1,h2,h3,h4,h5,h6,h7] at h;exact nw h
 cases h8:(zN a.hi b.hi).b
 ·rw [h1,h2,h3,h4,h5,h6,h7,h8] at h;exact nw h
 simp only [h1,h2,h3,h4,h5,h6,h7,h8,Bool.not_true,cfl] at h ⊢
 refine ⟨trivial,trivial,?_⟩
 have v1:=divdown_neg h0' h1
 have v2:=divup_neg h0' h2
 have v3:=divdown_neg h0 h3
 have v4:=divup_neg h0 h4
 have v5:=divdown_neg h0' h5
 have v6:=divup_neg h0' h6
 have v7:=divdown_neg h0 h7
 have v8:=divup_neg h0 h8
 generalize (zD a.lo b.lo).a=d1 at *
 generalize (zD a.lo b.hi).a=d2 at *
 generalize (zD a.hi b.lo).a=d3 at *
 generalize (zD a.hi b.hi).a=d4 at *
 generalize (zN a.lo b.lo).a=u1 at *
 generalize (zN a.lo b.hi).a=u2 at *
 generalize (zN a.hi b.lo).a=u3 at *
 generalize (zN a.hi b.hi).a=u4 at *
 have m1:=zfZ ⟨1152921504606846976,rfl⟩ d1
 have m2:=zfZ (zt ⟨1152921504606846976,rfl⟩ d1) d2
 have m3:=zfZ (zt (zt ⟨1152921504606846976,rfl⟩ d1) d2) d3
 have m4:=zfZ (zt (zt (zt ⟨1152921504606846976,rfl⟩ d1) d2) d3) d4
 have n1:=zfj ⟨-1152921504606846976,rfl⟩ u1
 have n2:=zfj (zo ⟨-1152921504606846976,rfl⟩ u1) u2
 have n3:=zfj (zo (zo ⟨-1152921504606846976,rfl⟩ u1) u2) u3
 have n4:=zfj (zo (zo (zo ⟨-1152921504606846976,rfl⟩ u1) u2) u3) u4
 generalize zt (zt (zt (zt ⟨1152921504606846976,rfl⟩ d1) d2) d3) d4=lo at *
 generalize zo (zo (zo (zo ⟨-1152921504606846976,rfl⟩ u1) u2) u3) u4=hi at *
 by_cases hm: -1152921504606846976<lo.val/\lo.val<=hi.val/\hi.val<1152921504606846976
 ·rw [zcX hm]
  simp only
  rintro x y (rfl|rfl) (rfl|rfl)
  ·omega
  ·omega
  ·omega
  ·omega
 ·rw [make_no hm] at h;exact nw h
theorem divI_two {a b:Iv} (h:za (zU a b)=true):0<b.lo.val\/b.hi.val<0:=by
 have nw:∀ {P:Prop},za zn=true->P:=fun h=>by rw [zcH] at h;cases h
 simp only [zU,zfX,Tr.get] at h
 cases ha:za a
 ·rw [ha] at h;exact nw h
 cases hb:za b
 ·rw [ha,hb] at h;exact nw h
 have ob:=(zbW _).1 hb
 have hz:zaL b ⟨0,rfl⟩=decide (b.lo.val<=0/\0<=b.hi.val):=by simp only [zaL,zcI,Tr.get,zed]
 by_cases hd:b.lo.val<=0/\0<=b.hi.val
 ·rw [ha,hb,hz,decide_eq_true hd] at h;exact nw h
 ·omega
theorem In.div {x y:Re} {a b:Iv} (h:In x a) (k:In y b):In (x/y) (zU a b):=fun ok=>by
 rcases divI_two ok with h0|h0
 ·exact h.div_pos k h0 ok
 obtain ⟨o1,o2,hc⟩:=divI_corner_neg h0 ok
 obtain ⟨h1,h2⟩:=h o1
 obtain ⟨k1,k2⟩:=k o2
 have b':=(zbW _).1 o2
 have y0:=lt_of_le_of_lt k2 (fx_neg' h0)
 have n1: -x<=fx (-a.lo.val):=by rw [zfW];generalize fx a.lo.val=u at *;exact zaa [x,u] (sn h1)
 have n2:fx (-a.hi.val) <= -x:=by rw [zfW];generalize fx a.hi.val=u at *;exact zaa [x,u] (sn h2)
 have m1: -y<=fx (-b.lo.val):=by rw [zfW];generalize fx b.lo.val=u at *;exact zaa [y,u] (sn k1)
 have m2:fx (-b.hi.val) <= -y:=by rw [zfW];generalize fx b.hi.val=u at *;exact zaa [y,u] (sn k2)
 have i1:=inv_le (neg_ne y0) m1
 have i2:=inv_le (fx_p (show 0 < -b.hi.val by omega)) m2
 have p0:∀v:I64,(v=b.lo\/v=b.hi)->0 < -v.val:=by rintro v (rfl|rfl)<;>omega
 have lo:∀u v:I64,(u=a.lo\/u=a.hi)->(v=b.lo\/v=b.hi)->fx (zU a b).lo.val<=fx (-u.val)*(fx (-v.val))⁻¹:=fun u v hu hv=>le_trans (fx_le.2 (hc u v hu hv).1) (fx_div_lo (p0 v hv))
 have hi:∀u v:I64,(u=a.lo\/u=a.hi)->(v=b.lo\/v=b.hi)->fx (-u.val)*(fx (-v.val))⁻¹<=fx (zU a b).hi.val:=fun u v hu hv=>by
  have:=fx_div_hi (x:= -u.val) (p0 v hv)
  rw [Int.neg_neg] at this
  exact le_trans this (fx_le.2 (hc u v hu hv).2)
 rw [<- div_neg x y (ne_of_lt y0)]
 exact ⟨real_lo n2 n1 i1 i2 (lo _ _ (.inr rfl) (.inl rfl)) (lo _ _ (.inr rfl) (.inr rfl)) (lo _ _ (.inl rfl) (.inl rfl)) (lo _ _ (.inl rfl) (.inr rfl)),
  real_hi n2 n1 i1 i2 (hi _ _ (.inr rfl) (.inl rfl)) (hi _ _ (.inr rfl) (.inr rfl)) (hi _ _ (.inl rfl) (.inl rfl)) (hi _ _ (.inl rfl) (.inr rfl))⟩
theorem narrow_b {v:Int} (h:(narrow v).b=true):(narrow v).a.val=v /\ -9223372036854775808<=v/\v<=9223372036854775807:=by
 unfold narrow at h ⊢
 split at h
 ·rename_i hr;rw [if_pos hr];exact ⟨wi hr.1 hr.2,hr⟩
 ·cases h
theorem quo_lo' {a b:Int} (hb:0<b):fx (a*4294967296/b)<=zi a/zi b:=by
 have zb:0<zi b:=by rw [<- zi_0];exact zi_lt.2 hb
 rw [le_div zb]
 have:=fx_floor (p:=a*4294967296) hb
 unfold fx
 rw [zeH a] at this
 generalize zi (a*4294967296/b)=q at *;generalize zi a=u at *;generalize zi b=v at *
 rw [show zi 4294967296=rat 4294967296 from rfl] at this
 exact zaa [q,u,v] (kn (1/4294967296) (sn this))
theorem quo_hi' {a b:Int} (hb:0<b):zi a/zi b<=fx (a*4294967296/b+1):=by
 have zb:0<zi b:=by rw [<- zi_0];exact zi_lt.2 hb
 rw [div_le zb]
 have h1:a*4294967296<=(a*4294967296/b+1)*b:=by have:=Int.lt_ediv_add_one_mul_self (a*4294967296) hb;omega
 have:=zi_le.2 h1
 unfold fx
 rw [zeH a,zeH _ b] at this
 generalize zi (a*4294967296/b+1)=q at *;generalize zi a=u at *;generalize zi b=v at *
 rw [show zi 4294967296=rat 4294967296 from rfl] at this
 exact zaa [q,u,v] (kn (1/4294967296) (sn this))
theorem quo_eq' {a b:Int} (hb:0<b) (h:a*4294967296%b=0):zi a/zi b<=fx (a*4294967296/b):=by
 have zb:0<zi b:=by rw [<- zi_0];exact zi_lt.2 hb
 rw [div_le zb]
 have h1:a*4294967296<=(a*4294967296/b)*b:=by
  have:=Int.mul_ediv_add_emod (a*4294967296) b
  rw [h,Int.mul_comm] at this;omega
 have:=zi_le.2 h1
 unfold fx
 rw [zeH a,zeH _ b] at this
 generalize zi (a*4294967296/b)=q at *;generalize zi a=u at *;generalize zi b=v at *
 rw [show zi 4294967296=rat 4294967296 from rfl] at this
 exact zaa [q,u,v] (kn (1/4294967296) (sn this))
theorem end_b {a:I64} {c:Bool} (h:(zae a c).b=true):c=true/\zae a c=⟨a,true⟩/\zB a=true:=by
 rcases end_cases a c with e|⟨e,k⟩
 ·rw [e] at h;cases h
 ·refine ⟨?_,e,k⟩
  cases c
  ·rw [end_no] at e;cases e
  ·rfl
theorem In.quotient {a b:I64} (hb:0<b.val):In (zi a.val/zi b.val) (zbE a b):=by
 rw [q_F_spec]
 have hn:¬b.val<0:=by omega
 unfold QQ
 rw [if_neg hn]
 unfold QU
 cases h1:(FF a b).b
 ·exact In.whole _
 cases h2:(FC a b).b
 ·exact In.whole _
 simp only [cond_true]
 have f1:fx (FF a b).a.val<=zi a.val/zi b.val:=by
  unfold FF at h1 ⊢
  obtain ⟨e1,e2,e3⟩:=end_b h1
  rw [e2]
  simp only [MD,hb,if_true] at e1 ⊢
  have:=narrow_b e1
  rw [this.1]
  exact quo_lo' hb
 have f2:zi a.val/zi b.val<=fx (FC a b).a.val:=by
  unfold FC at h2 ⊢
  simp only [hb,if_true] at h2 ⊢
  cases hq:(narrow (a.val*4294967296/b.val)).b
  ·rw [hq] at h2;simp at h2
  have nb:=narrow_b hq
  simp only [hq,if_true] at h2 ⊢
  by_cases hz:a.val*4294967296%b.val=0
  ·simp only [hz,if_true] at h2 ⊢
   obtain ⟨e1,e2,e3⟩:=end_b h2
   rw [e2,nb.1]
   exact quo_eq' hb hz
  ·simp only [hz,if_false] at h2 ⊢
   obtain ⟨e1,e2,e3⟩:=end_b h2
   rw [e2]
   have ob:=ok_bd e3
   rw [nb.1] at ob ⊢
   by_cases hx:a.val*4294967296/b.val=9223372036854775807
   ·rw [hx] at ob;exact absurd ob (by decide)
   ·rw [wi (by omega) (by omega)]
    exact quo_hi' hb
 intro ok
 by_cases hm: -1152921504606846976<(FF a b).a.val/\(FF a b).a.val<=(FC a b).a.val/\(FC a b).a.val<1152921504606846976
 ·rw [zcX hm];exact ⟨f1,f2⟩
 ·rw [make_no hm,zcH] at ok;cases ok
theorem In.norm {x y z:Re} {v:Vec} (hx:In x v.x) (hy:In y v.y) (hz:In z v.z):In (An.sqrt (x*x+y*y+z*z)) (za3 v):=by
 simp only [za3,t_spec_NormV,Tr.get,siw_eq,zeT,ends_eq]
 cases ox:za v.x
 ·exact In.whole _
 cases oy:za v.y
 ·exact In.whole _
 cases oz:za v.z
 ·exact In.whole _
 simp only [Bool.not_true,cfl,abs_make ox,abs_make oy,abs_make oz]
 have ex:=Nc.zfH ox
 have ey:=Nc.zfH oy
 have ez:=Nc.zfH oz
 have jx:=hx.ends ox
 have jy:=hy.ends oy
 have jz:=hz.ends oz
 generalize (zF v.x).a=x1 at *
 generalize (zF v.x).b=x2 at *
 generalize (zF v.y).a=y1 at *
 generalize (zF v.y).b=y2 at *
 generalize (zF v.z).a=z1 at *
 generalize (zF v.z).b=z2 at *
 obtain ⟨a1,a2,a3,a4⟩:=sum_spec (x:=x1) (y:=y1) (z:=z1) (by omega) (by omega) (by omega)
 obtain ⟨b1,b2,b3,b4⟩:=sum_spec (x:=x2) (y:=y2) (z:=z2) (by omega) (by omega) (by omega)
 obtain ⟨r0,r1,r2⟩:=root_mk a2 (by omega)
 obtain ⟨q0,q1,q2⟩:=root_mk b2 (by omega)
 have hle:sq3 x1 y1 z1<=sq3 x2 y2 z2:=by
  have k1:=sq_mono ex.1 ex.2.2.2.2.2
  have k2:=sq_mono ey.1 ey.2.2.2.2.2
  have k3:=sq_mono ez.1 ez.2.2.2.2.2
  unfold sq3;omega
 have hR:(zq (mkW (sq3 x1 y1 z1))).val<=(zq (mkW (sq3 x2 y2 z2))).val:=by
  by_cases hh:(zq (mkW (sq3 x1 y1 z1))).val<=(zq (mkW (sq3 x2 y2 z2))).val
  ·exact hh
  ·have:=sq_mono (a:=(zq (mkW (sq3 x2 y2 z2))).val+1) (b:=(zq (mkW (sq3 x1 y1 z1))).val) (by omega) (by omega)
   omega
 have hQ:(zq (mkW (sq3 x2 y2 z2))).val<=2305843009213693952:=Ev.sq_lt q0 (by decide) (by omega)
 -- the true length
 have sqe:∀t:Re,t*t=An.abs t*An.abs t:=fun t=>(abs_sq t).symm
 have lo:zi (sq3 x1 y1 z1)*rat (1/18446744073709551616)<=x*x+y*y+z*z:=by
  have e1:=mul_le (fx_nn ex.1) jx.1 (fx_nn ex.1) jx.1
  have e2:=mul_le (fx_nn ey.1) jy.1 (fx_nn ey.1) jy.1
  have e3:=mul_le (fx_nn ez.1) jz.1 (fx_nn ez.1) jz.1
  rw [fx_sq,abs_sq] at e1 e2 e3
  unfold sq3
  rw [zi_add,zi_add]
  generalize zi (x1.val*x1.val)=p at *;generalize zi (y1.val*y1.val)=q at *;generalize zi (z1.val*z1.val)=r at *
  exact zaa [x,y,z,p,q,r] (pn (pn (sn e1) (sn e2)) (sn e3))
 have hi:x*x+y*y+z*z<=zi (sq3 x2 y2 z2)*rat (1/18446744073709551616):=by
  have e1:=mul_le (zcy x) jx.2 (zcy x) jx.2
  have e2:=mul_le (zcy y) jy.2 (zcy y) jy.2
  have e3:=mul_le (zcy z) jz.2 (zcy z) jz.2
  rw [fx_sq,abs_sq] at e1 e2 e3
  unfold sq3
  rw [zi_add,zi_add]
  generalize zi (x2.val*x2.val)=p at *;generalize zi (y2.val*y2.val)=q at *;generalize zi (z2.val*z2.val)=r at *
  exact zaa [x,y,z,p,q,r] (pn (pn (sn e1) (sn e2)) (sn e3))
 have s0:0<=x*x+y*y+z*z:=pn (pn (sqn x) (sqn y)) (sqn z)
 have down:∀r:Int,0<=r->r*r<=sq3 x1 y1 z1->fx r<=An.sqrt (x*x+y*y+z*z):=fun r h0 hr=>by
  refine sq_le (An.sqrt_nn _) ?_
  rw [An.sqrt_sq s0,fx_sq]
  exact le_trans (zk_le hr) lo
 have up:∀r:Int,0<=r->sq3 x2 y2 z2<=r*r->An.sqrt (x*x+y*y+z*z)<=fx r:=fun r h0 hr=>by
  refine sq_le (fx_nn h0) ?_
  rw [An.sqrt_sq s0,fx_sq]
  exact le_trans hi (zk_le hr)
 simp only [a1,b1,mul_spec]
 generalize hR1:zq (mkW (sq3 x1 y1 z1))=R1 at *
 generalize hR2:zq (mkW (sq3 x2 y2 z2))=R2 at *
 have w1:(Rng.w .i64 R1.val).val=R1.val:=wi (by omega) (by omega)
 have w2:(Rng.w .i64 R2.val).val=R2.val:=wi (by omega) (by omega)
 have w3:(Rng.w .i64 (R2.val+1)).val=R2.val+1:=wi (by omega) (by omega)
 rw [w2]
 have q3:=Int.mul_nonneg q0 q0
 have c2:R2.val*R2.val<=2305843009213693952*2305843009213693952:=Int.mul_le_mul hQ hQ q0 (by decide)
 have wm:=zfm (v:=R2.val*R2.val) (by omega) (by omega)
 have ws:=zfm (v:=sq3 x2 y2 z2) (by omega) (by omega)
 generalize hc:((mkW (R2.val*R2.val)).hi.val==(mkW (sq3 x2 y2 z2)).hi.val&&((mkW (R2.val*R2.val)).lo.val==(mkW (sq3 x2 y2 z2)).lo.val&&true))=c
 cases c
 ·simp only [Bool.not_false,ctr,w3]
  by_cases hm:R2.val+1>=1152921504606846976
  ·simp only [hm,decide_true,ctr];exact In.whole _
  ·simp only [hm,decide_false,cfl]
   intro _
   simp only [w1,w3]
   exact ⟨down _ r0 r1,up _ (by omega) (by omega)⟩
 ·simp only [Bool.not_true,cfl,w2]
  by_cases hm:R2.val>=1152921504606846976
  ·simp only [hm,decide_true,ctr];exact In.whole _
  ·simp only [hm,decide_false,cfl]
   intro _
   simp only [w1,w2]
   refine ⟨down _ r0 r1,up _ q0 ?_⟩
   simp only [Bool.and_true,Bool.and_eq_true,beq_iff_eq] at hc
   have:wv (mkW (R2.val*R2.val))=wv (mkW (sq3 x2 y2 z2)):=by unfold wv;rw [hc.1,hc.2]
   rw [wm,ws] at this
   omega
end Go.Proofs.YtlolpmmloolieaaGreatDoor.Nc
namespace Go.Proofs.YtlolpmmloolieaaGreatDoor.Nc
open Go Go.Proofs.YtlolpmmloolieaaGreatDoor.An
open Go.Proofs.YtlolpmmloolieaaGreatDoor.Ev hiding mn zfG neg_eq sq_lt sub_eq
structure Rv where
 x:Re
 y:Re
 z:Re
def Rv.norm (a:Rv):Re:=An.sqrt (a.x*a.x+a.y*a.y+a.z*a.z)
def InV (u:Rv) (v:Vec):Prop:=In u.x v.x/\In u.y v.y/\In u.z v.z
theorem InV.norm {u:Rv} {a:Vec} (h:InV u a):In u.norm (za3 a):=In.norm h.1 h.2.1 h.2.2
theorem less_1 {a b:Iv} (h:(zcP a b).val=1):za a=true/\za b=true/\a.hi.val<b.lo.val:=by
 simp only [zcP,t_spec_LessI,Tr.get] at h
 cases ha:za a
 ·rw [ha] at h;cases h
 cases hb:za b
 ·rw [ha,hb] at h;cases h
 rw [ha,hb] at h
 simp only [Bool.not_true,cfl] at h
 by_cases c:a.hi.val<b.lo.val
 ·exact ⟨rfl,rfl,c⟩
 ·by_cases d:a.lo.val>=b.hi.val
  ·simp only [c,d,decide_true,decide_false,ctr,cfl] at h;cases h
  ·simp only [c,d,decide_false,cfl] at h;cases h
theorem not_less {x y:Re} {a b:Iv} (h:In x a) (k:In y b) (l:y<=x):¬(zcP a b).val=1:=fun e=>by
 obtain ⟨oa,ob,c⟩:=less_1 e
 have h1:=(h oa).2
 have h2:=(k ob).1
 exact absurd (le_trans h2 (le_trans l h1)) (An.not_le.2 (fx_lt.2 c))
end Go.Proofs.YtlolpmmloolieaaGreatDoor.Nc
namespace Go.Proofs.YtlolpmmloolieaaGreatDoor.Nc
open Go Go.Proofs.YtlolpmmloolieaaGreatDoor.An
open Go.Proofs.YtlolpmmloolieaaGreatDoor.Ev hiding mn zfG neg_eq sq_lt sub_eq
theorem In.overlap {x:Re} {a b:Iv} (h:In x a) (k:In x b):zat a b=true:=by
 simp only [zat,zc9,zbZ,zdo,Tr.get]
 cases ha:za a
 ·cases hb:za b<;>rfl
 cases hb:za b
 ·rfl
 obtain ⟨h1,h2⟩:=h ha
 obtain ⟨k1,k2⟩:=k hb
 have l1:=fx_le.1 (le_trans h1 k2)
 have l2:=fx_le.1 (le_trans k1 h2)
 have b1:=(zbW _).1 ha
 have b2:=(zbW _).1 hb
 have m1:=zfj a.lo b.lo
 have m2:=zfZ a.hi b.hi
 have n:¬(zo a.lo b.lo).val>(zt a.hi b.hi).val:=by omega
 simp only [Bool.not_true,cfl,n,decide_false]
end Go.Proofs.YtlolpmmloolieaaGreatDoor.Nc
namespace Go.Proofs.YtlolpmmloolieaaGreatDoor.Nc
open Go Go.Proofs.YtlolpmmloolieaaGreatDoor.An
open Go.Proofs.YtlolpmmloolieaaGreatDoor.Ev hiding mn zfG neg_eq sq_lt sub_eq
theorem ok_iff {p:zdz}:za1 p=true↔(-900000000<=p.lat.val/\p.lat.val<=900000000)/\(-1799999999<=p.lon.val/\p.lon.val<=1800000000):=by
 simp only [za1,t_spec_l11Ok,Tr.get,zed]
 by_cases h: -900000000<=p.lat.val/\p.lat.val<=900000000
 ·simp [h]
 ·simp only [h,decide_false,cfl,false_and,Bool.false_eq_true]
end Go.Proofs.YtlolpmmloolieaaGreatDoor.Nc
namespace Go.Proofs.YtlolpmmloolieaaGreatDoor.Nc
open Go Go.Proofs.YtlolpmmloolieaaGreatDoor.An
open Go.Proofs.YtlolpmmloolieaaGreatDoor.Ev hiding mn zfG neg_eq sq_lt sub_eq
def ea (e:Ell):Re:=zi e.a.val/zi 1000
def ef (e:Ell):Re:=zi e.num.val/zi e.den.val
def ee (e:Ell):Re:=ef e*(zi 2-ef e)
theorem ell_bd {e:Ell} (h:zak e=true):(1000<=e.a.val/\e.a.val<=100000000000)/\(1<=e.den.val/\e.den.val<=1000000000000)/\0<=e.num.val/\e.num.val*100<=e.den.val:=by
 simp only [zak,t_spec_l12Ok,Tr.get,zed] at h
 by_cases c1:1000<=e.a.val/\e.a.val<=100000000000
 ·by_cases c2:1<=e.den.val/\e.den.val<=1000000000000
  ·by_cases c3:e.num.val>=0
   ·simp only [c1,c2,c3,and_self,decide_true,ctr] at h
    have t:Int.tdiv e.den.val 100=e.den.val/100:=Int.tdiv_eq_ediv_of_nonneg (by omega)
    rw [t] at h
    have b:(Rng.w .i64 (e.den.val/100)).val=e.den.val/100:=wi (by omega) (by omega)
    rw [b] at h
    have:=of_decide_eq_true h
    omega
   ·simp only [c1,c2,c3,and_self,decide_true,decide_false,ctr,cfl] at h;cases h
  ·simp only [c1,c2,and_self,decide_true,decide_false,ctr,cfl] at h;cases h
 ·simp only [c1,decide_false,cfl] at h;cases h
theorem In.major {e:Ell} (h:zak e=true):In (ea e) (zbT e):=by
 simp only [zbT,t_spec_MajorI,Tr.get,h,Bool.not_true,cfl]
 exact In.quotient (b:=⟨1000,rfl⟩) (by decide)
theorem In.flat {e:Ell} (h:zak e=true):In (ef e) (zcQ e):=by
 simp only [zcQ,zfA,Tr.get,h,Bool.not_true,cfl]
 exact In.quotient (by have:=(ell_bd h).2.1.1;omega)
theorem In.ecc {e:Ell} (h:zak e=true):In (ee e) (zfk e):=by
 simp only [zfk,t_spec_EccI,Tr.get]
 exact (In.flat h).mul ((In.int (n:=⟨2,rfl⟩) (by decide)).sub (In.flat h))
theorem ea_pos {e:Ell} (h:zak e=true):1<=ea e:=by
 unfold ea
 have p:(0:Re)<zi 1000:=zi_lt.2 (by decide)
 rw [le_div p,An.one_mul]
 exact zi_le.2 (ell_bd h).1.1
theorem ef_bd {e:Ell} (h:zak e=true):0<=ef e/\ef e<=rat (1/100):=by
 obtain ⟨_,⟨d1,_⟩,n0,n1⟩:=ell_bd h
 have p:(0:Re)<zi e.den.val:=zi_lt.2 (show (0:Int)<e.den.val by omega)
 refine ⟨div_n (zi_nn n0) p,(div_le p).2 ?_⟩
 have:=zi_le.2 n1
 rw [zeH] at this
 rw [show zi 100=rat 100 from rfl] at this
 generalize zi e.num.val=x at *;generalize zi e.den.val=y at *
 exact zaa [x,y] (kn (1/100) (sn this))
theorem ee_bd {e:Ell} (h:zak e=true):0<=ee e/\ee e<=rat (1/50):=by
 obtain ⟨f0,f1⟩:=ef_bd h
 unfold ee
 rw [show zi 2=rat 2 from rfl]
 generalize ef e=f at *
 have g:0<=rat 2-f:=zaa [f] (pn (sn f1) (qn (199/100)))
 refine ⟨An.mn f0 g,?_⟩
 exact zaa [f] (pn (kn 2 (sn f1)) (sqn f))
def ew (e:Ell) (t:Re):Re:=1-ee e*(An.sin t*An.sin t)
theorem sin_sq1 (t:Re):0<=An.sin t*An.sin t/\An.sin t*An.sin t<=1:=by
 refine ⟨sqn _,?_⟩
 have:=sc_sq t
 have c:=sqn (An.cos t)
 generalize An.sin t*An.sin t=s at *;generalize An.cos t*An.cos t=c2 at *
 rw [<- this]
 exact zaa [s,c2] c
theorem ew_pos {e:Ell} (h:zak e=true) (t:Re):rat (49/50)<=ew e t/\ew e t<=1:=by
 obtain ⟨e0,e1⟩:=ee_bd h
 obtain ⟨s0,s1⟩:=sin_sq1 t
 unfold ew
 generalize An.sin t*An.sin t=s at *;generalize ee e=k at *
 exact ⟨zaa [k,s] (pn (sn e1) (An.mn e0 (sn s1))),zaa [k,s] (An.mn e0 s0)⟩
def en (e:Ell) (t:Re):Re:=ea e/An.sqrt (ew e t)
theorem In.wI {e:Ell} (h:zak e=true) {t:Re} {x:Iv} (k:In t x):In (ew e t) (F_spec_l12W e x):=by
 simp only [F_spec_l12W,t_spec_l12W,Tr.get]
 exact In.one.sub ((In.ecc h).mul k.sin.sqr)
theorem In.radN {e:Ell} (h:zak e=true) {t:Re} {x:Iv} (k:In t x):In (en e t) (zeY e x):=by
 simp only [zeY,t_spec_RadiusN,Tr.get]
 exact (In.major h).div (In.wI h k).sqrt
theorem sw_pos {e:Ell} (h:zak e=true) (t:Re):0<An.sqrt (ew e t):=sqrt_pos (lt_of_lt_of_le (qp (49/50)) (ew_pos h t).1)
def ph (p:Ev.Place):Re:=zi p.h.val/zi 1000
def cr (e:Ell) (p:Ev.Place):Re:=(en e (Nc.rad p.pt.lat.val)+ph p)*An.cos (Nc.rad p.pt.lat.val)
def cz (e:Ell) (p:Ev.Place):Re:=(en e (Nc.rad p.pt.lat.val)*(1-ee e)+ph p)*An.sin (Nc.rad p.pt.lat.val)
def cv (e:Ell) (p:Ev.Place):Rv:=⟨cr e p*An.cos (Nc.rad p.pt.lon.val),cr e p*An.sin (Nc.rad p.pt.lon.val),cz e p⟩
theorem InV.place {e:Ell} (h:zak e=true) (p:Ev.Place):InV (cv e p) (toC e p):=by
 have hH:In (ph p) (zbE p.h ⟨1000,rfl⟩):=In.quotient (b:=⟨1000,rfl⟩) (by decide)
 have hN:=In.radN h (In.rad (n:=p.pt.lat))
 have hr:=(hN.add hH).mul (In.rad (n:=p.pt.lat)).cos
 exact ⟨hr.mul (In.rad (n:=p.pt.lon)).cos,hr.mul (In.rad (n:=p.pt.lon)).sin,((hN.mul (In.one.sub (In.ecc h))).add hH).mul (In.rad (n:=p.pt.lat)).sin⟩
end Go.Proofs.YtlolpmmloolieaaGreatDoor.Nc
namespace Go.Proofs.YtlolpmmloolieaaGreatDoor.Nc
open Go Go.Proofs.YtlolpmmloolieaaGreatDoor.An
open Go.Proofs.YtlolpmmloolieaaGreatDoor.Ev hiding mn zfG neg_eq sq_lt sub_eq
def Rv.sub (a b:Rv):Rv:=⟨a.x-b.x,a.y-b.y,a.z-b.z⟩
theorem InV.minus {u w:Rv} {a b:Vec} (h:InV u a) (k:InV w b):InV (u.sub w) ⟨zO a.x b.x,zO a.y b.y,zO a.z b.z⟩:=⟨h.1.sub k.1,h.2.1.sub k.2.1,h.2.2.sub k.2.2⟩
theorem sub_norm (a b:Rv):(a.sub b).norm=(b.sub a).norm:=by
 obtain ⟨a1,a2,a3⟩:=a;obtain ⟨b1,b2,b3⟩:=b
 simp only [Rv.norm,Rv.sub]
 congr 1
 exact An.ring [a1,a2,a3,b1,b2,b3]
theorem chord_ov {u w:Rv} {a b:Vec} (h:InV u a) (k:InV w b):
  zat (za3 ⟨zO b.x a.x,zO b.y a.y,zO b.z a.z⟩) (za3 ⟨zO a.x b.x,zO a.y b.y,zO a.z b.z⟩)=true:=by
 have h1:=(k.minus h).norm
 have h2:=(h.minus k).norm
 rw [sub_norm] at h2
 exact h1.overlap h2
def lv (d:Rv) (f l:Re):Rv:=
 ⟨d.y*An.cos l-d.x*An.sin l,d.z*An.cos f-(d.x*An.cos l+d.y*An.sin l)*An.sin f,d.z*An.sin f+(d.x*An.cos l+d.y*An.sin l)*An.cos f⟩
theorem lv_norm (d:Rv) (f l:Re):(lv d f l).norm=d.norm:=by
 have e1:=sc_sq f
 have e2:=sc_sq l
 obtain ⟨x,y,z⟩:=d
 simp only [Rv.norm,lv]
 congr 1
 generalize An.cos f=c at *;generalize An.sin f=s at *;generalize An.cos l=k at *;generalize An.sin l=t at *
 have h1:(x*k+y*t)*(x*k+y*t)*(s*s+c*c)=(x*k+y*t)*(x*k+y*t)*1:=congrArg (fun w=>(x*k+y*t)*(x*k+y*t)*w) e1
 have h2:z*z*(s*s+c*c)=z*z*1:=congrArg (fun w=>z*z*w) e1
 have h3:(x*x+y*y)*(t*t+k*k)=(x*x+y*y)*1:=congrArg (fun w=>(x*x+y*y)*w) e2
 have h4:(x*k+y*t)*(x*k+y*t)*(s*s+c*c)+z*z*(s*s+c*c)+(x*x+y*y)*(t*t+k*k)=(x*k+y*t)*(x*k+y*t)*1+z*z*1+(x*x+y*y)*1:=by rw [h1,h2,h3]
 exact eq_by [x,y,z,c,s,k,t] h4
theorem local_ov {d:Rv} {v:Vec} (h:InV d v) {f l:Re} {a b:Iv} (hf:In f a) (hl:In l b):
  zat (za3 ⟨zO (zM v.y (zbi b)) (zM v.x (za9 b)),
   zO (zM v.z (zbi a)) (zM (zaE (zM v.x (zbi b)) (zM v.y (za9 b))) (za9 a)),
   zaE (zM v.z (za9 a)) (zM (zaE (zM v.x (zbi b)) (zM v.y (za9 b))) (zbi a))⟩) (za3 v)=true:=by
 have hw:=(h.1.mul hl.cos).add (h.2.1.mul hl.sin)
 have k:InV (lv d f l) ⟨_,_,_⟩:=⟨(h.2.1.mul hl.cos).sub (h.1.mul hl.sin),(h.2.2.mul hf.cos).sub (hw.mul hf.sin),(h.2.2.mul hf.sin).add (hw.mul hf.cos)⟩
 have k1:=k.norm
 rw [lv_norm] at k1
 exact k1.overlap h.norm
theorem In.minor {e:Ell} (h:zak e=true):In (ea e*(1-ef e)) (zcO e):=by
 obtain ⟨_,⟨d1,d2⟩,n0,n1⟩:=ell_bd h
 simp only [zcO,t_spec_MinorI,Tr.get,h,Bool.not_true,cfl]
 have hv:(Rng.w .i64 (e.den.val-e.num.val)).val=e.den.val-e.num.val:=wi (by omega) (by omega)
 have q:=In.quotient (a:= .w .i64 (e.den.val-e.num.val)) (b:=e.den) (by omega)
 rw [hv] at q
 have hd:(0:Re)<zi e.den.val:=zi_lt.2 (show (0:Int)<e.den.val by omega)
 have e1:zi (e.den.val-e.num.val)/zi e.den.val=1-ef e:=by
  unfold ef
  have hm:=div_mul (x:=zi e.num.val) (y:=zi e.den.val) (ne_of_gt hd)
  refine eq_of_mul (ne_of_gt hd) ?_
  rw [div_mul (ne_of_gt hd),zi_sub]
  generalize zi e.num.val/zi e.den.val=q at *
  rw [<- hm]
  exact An.ring [q,zi e.den.val]
 rw [e1] at q
 exact (In.major h).mul q
theorem inside_ge {e:Ell} (h:zak e=true) {p:Ev.Place} (h0:0<=p.h.val):
  1<=cr e p/ea e*(cr e p/ea e)+cz e p/(ea e*(1-ef e))*(cz e p/(ea e*(1-ef e))):=by
 have ha:0<ea e:=lt_of_lt_of_le (qp 1) (ea_pos h)
 obtain ⟨f0,f1⟩:=ef_bd h
 have hk:0<1-ef e:=by
  generalize ef e=f at *
  exact lt_of_lt_of_le (qp (99/100)) (zaa [f] (sn f1))
 have hak:0<ea e*(1-ef e):=mp ha hk
 have hh:0<=ph p:=div_n (zi_nn h0) (zi_lt.2 (by decide))
 have hr:=sw_pos h (Nc.rad p.pt.lat.val)
 have hw:=(ew_pos h (Nc.rad p.pt.lat.val)).1
 have hw0:0<ew e (Nc.rad p.pt.lat.val):=lt_of_lt_of_le (qp (49/50)) hw
 have hrr:=sqrt_sq (le_of_lt hw0)
 have hN:en e (Nc.rad p.pt.lat.val)*An.sqrt (ew e (Nc.rad p.pt.lat.val))=ea e:=by unfold en;exact div_mul (ne_of_gt hr)
 have hX:=div_mul (x:=cr e p) (y:=ea e) (ne_of_gt ha)
 have hY:=div_mul (x:=cz e p) (y:=ea e*(1-ef e)) (ne_of_gt hak)
 have sc:=sc_sq (Nc.rad p.pt.lat.val)
 have hwd:ew e (Nc.rad p.pt.lat.val)=1-ee e*(An.sin (Nc.rad p.pt.lat.val)*An.sin (Nc.rad p.pt.lat.val)):=rfl
 have hee:ee e=ef e*(2-ef e):=rfl
 unfold cr at hX ⊢
 unfold cz at hY ⊢
 rw [hee] at hwd hY ⊢
 generalize (en e (Nc.rad p.pt.lat.val)+ph p)*An.cos (Nc.rad p.pt.lat.val)/ea e=X at *
 generalize (en e (Nc.rad p.pt.lat.val)*(1-ef e*(2-ef e))+ph p)*An.sin (Nc.rad p.pt.lat.val)/(ea e*(1-ef e))=Y at *
 generalize en e (Nc.rad p.pt.lat.val)=N at *
 generalize An.sqrt (ew e (Nc.rad p.pt.lat.val))=r at *
 generalize ew e (Nc.rad p.pt.lat.val)=w at *
 generalize An.cos (Nc.rad p.pt.lat.val)=c at *
 generalize An.sin (Nc.rad p.pt.lat.val)=s at *
 generalize ph p=d at *;generalize ea e=a at *;generalize ef e=f at *
 have u0:0<=d*r:=An.mn hh (le_of_lt hr)
 have a0:=le_of_lt ha
 have h1:X*r*a=(a+d*r)*c:=by
  rw [show X*r*a=X*a*r from An.ring [X,r,a],hX,show (N+d)*c*r=(N*r+d*r)*c from An.ring [N,d,c,r],hN]
 have h2:Y*r*(a*(1-f))=(a*(1-f*(2-f))+d*r)*s:=by
  rw [show Y*r*(a*(1-f))=Y*(a*(1-f))*r from An.ring [Y,r,a,f],hY,show (N*(1-f*(2-f))+d)*s*r=(N*r*(1-f*(2-f))+d*r)*s from An.ring [N,d,s,r,f],hN]
 generalize d*r=u at *
 have h3:c*c<=X*r*(X*r):=by
  refine zdh (mp ha ha) ?_
  rw [show X*r*(X*r)*(a*a)=X*r*a*(X*r*a) from An.ring [X,r,a],h1]
  exact zaa [a,u,c] (An.mn (pn (kn 2 (An.mn a0 u0)) (sqn u)) (sqn c))
 have h4:(1-f)*(1-f)*(s*s)<=Y*r*(Y*r):=by
  refine zdh (mp hak hak) ?_
  rw [show Y*r*(Y*r)*(a*(1-f)*(a*(1-f)))=Y*r*(a*(1-f))*(Y*r*(a*(1-f))) from An.ring [Y,r,a,f],h2]
  exact zaa [a,u,s,f] (An.mn (pn (kn 2 (An.mn (An.mn a0 (sqn (1-f))) u0)) (sqn u)) (sqn s))
 have h5:w=c*c+(1-f)*(1-f)*(s*s):=by
  rw [hwd]
  exact eq_by [f,s,c] sc.symm
 refine zdh hw0 ?_
 have h6:(X*X+Y*Y)*w=X*r*(X*r)+Y*r*(Y*r):=by
  rw [<- hrr];exact An.ring [X,Y,r]
 rw [h6,An.one_mul,h5]
 generalize X*r*(X*r)=x2 at *;generalize Y*r*(Y*r)=y2 at *;generalize c*c=c2 at *;generalize (1-f)*(1-f)*(s*s)=s2 at *
 exact zaa [x2,y2,c2,s2] (pn (sn h3) (sn h4))
theorem inside_no {e:Ell} (h:zak e=true) {p:Ev.Place} (h0:0<=p.h.val):
  ¬(zcP (zaE (zaD (zU (zch (toC e p)) (zbT e))) (zaD (zU (toC e p).z (zcO e)))) (zA ⟨1,rfl⟩)).val=1:=by
 have s:=sc_sq (Nc.rad p.pt.lon.val)
 have fl:In (An.sqrt (cr e p*cr e p)) (zch (toC e p)):=by
  have hV:=InV.place h p
  have z:(cv e p).x*(cv e p).x+(cv e p).y*(cv e p).y+0*0=cr e p*cr e p:=by
   simp only [cv]
   generalize cr e p=r;generalize An.cos (Nc.rad p.pt.lon.val)=c at *;generalize An.sin (Nc.rad p.pt.lon.val)=t at *
   exact eq_by [r,c,t] (congrArg (fun w=>r*r*w) s:r*r*(t*t+c*c)=r*r*1)
  simp only [zch,t_spec_l15Flat,Tr.get]
  have:=In.norm (v:=⟨(toC e p).x,(toC e p).y,⟨⟨0,rfl⟩,⟨0,rfl⟩⟩⟩) (z:=0) hV.1 hV.2.1 (fun _=>by simp only [fx_0];exact ⟨le_refl _,le_refl _⟩)
  rwa [z] at this
 have ha:0<ea e:=lt_of_lt_of_le (qp 1) (ea_pos h)
 have k:=((fl.div (In.major h)).sqr).add (((InV.place h p).2.2.div (In.minor h)).sqr)
 have g:=inside_ge h h0
 have e1:An.sqrt (cr e p*cr e p)/ea e*(An.sqrt (cr e p*cr e p)/ea e)=cr e p/ea e*(cr e p/ea e):=by
  have q:=sqrt_sq (sqn (cr e p))
  rw [div_eq,div_eq]
  generalize (ea e)⁻¹=i;generalize An.sqrt (cr e p*cr e p)=y at *;generalize cr e p=r at *
  exact eq_by [y,i,r] (congrArg (fun w=>w*i*i) q:y*y*i*i=r*r*i*i)
 rw [e1] at k
 exact not_less k In.one g
end Go.Proofs.YtlolpmmloolieaaGreatDoor.Nc
