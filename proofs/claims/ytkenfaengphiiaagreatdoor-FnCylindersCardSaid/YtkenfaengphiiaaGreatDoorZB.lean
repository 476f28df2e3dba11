/- The law FnCylinders gives true, whatever bytes come in, where the listed tables hold what the program's text lays. The card: the tables tied to the text. No other conditions. (One of the texts of its proof, put together by a program of this session.) -/
import Derived.Test.YtkenfaengphiiaaGreatDoorZA
import Derived.Test.YtkenfaengphiiaaGreatDoorZW5
import Derived.Test.YtkenfaengphiiaaGreatDoorZW8
set_option linter.unusedSectionVars false
set_option linter.unusedSimpArgs false
set_option linter.unusedVariables false
noncomputable section
namespace Go.Proofs.YtkenfaengphiiaaGreatDoor.Nc
open Go Go.Proofs.YtkenfaengphiiaaGreatDoor.An
open Go.Proofs.YtkenfaengphiiaaGreatDoor.Ev hiding mn zfC neg_eq zmJ sub_eq
def fx (n:Int):Re:=zi n*rat (1/4294967296)
def In (x:Re) (a:Iv):Prop:=ze a=true->fx a.lo.val<=x/\x<=fx a.hi.val
theorem In.no {x:Re} {a:Iv} (h:ze a=false):In x a:=fun k=>by rw [h] at k;cases k
theorem In.whole (x:Re):In x zt:=In.no zch
theorem zer {a b:Int}:fx a<=fx b↔a<=b:=by
 unfold fx
 constructor
 ·intro h;exact zlh.1 (zdM (qp (1/4294967296)) h)
 ·intro h;have:=zlh.2 h;generalize zi a=x at *;generalize zi b=y at *;exact zU [x,y] (mn (sn this) (qn (1/4294967296)))
theorem zI5 {a b:Int}:fx a<fx b↔a<b:=by
 rw [<- An.not_le,zer];omega
theorem zp5 (a b:Int):fx (a+b)=fx a+fx b:=by unfold fx;rw [zpW,An.add_mul]
theorem zeR (a:Int):fx (-a)= - fx a:=by unfold fx;rw [zn2,An.neg_mul]
theorem zAs (a b:Int):fx (a-b)=fx a-fx b:=by rw [Int.sub_eq_add_neg,zp5,zeR];rfl
theorem fx_0:fx 0=0:=An.zero_mul _
theorem zDe (a:Int):fx (a*4294967296)=zi a:=by
 unfold fx;rw [zc8];generalize zi a=x
 show x*rat (4294967296:Int)*_=x
 exact ring [x]
theorem fx_1:fx 4294967296=1:=zDe 1
theorem zBq {a:Int} (h:0<=a):0<=fx a:=by rw [<- fx_0];exact zer.2 h
theorem fx_p {a:Int} (h:0<a):0<fx a:=by rw [<- fx_0];exact zI5.2 h
theorem zHE {a:Int} (h:a<0):fx a<0:=by rw [<- fx_0];exact zI5.2 h
theorem In.point {n:I64}:In (fx n.val) ⟨n,n⟩:=fun _=>⟨le_refl _,le_refl _⟩
theorem In.add {x y:Re} {a b:Iv} (h:In x a) (k:In y b):In (x+y) (zH a b):=fun ok=>by
 obtain ⟨o1,o2,e1,e2⟩:=zFN ok
 obtain ⟨h1,h2⟩:=h o1
 obtain ⟨k1,k2⟩:=k o2
 rw [e1,e2,zp5,zp5]
 exact ⟨zgw h1 k1,zgw h2 k2⟩
theorem In.sub {x y:Re} {a b:Iv} (h:In x a) (k:In y b):In (x-y) (zac a b):=fun ok=>by
 obtain ⟨o1,o2,e1,e2⟩:=zEw ok
 obtain ⟨h1,h2⟩:=h o1
 obtain ⟨k1,k2⟩:=k o2
 rw [e1,e2,zAs,zAs]
 generalize fx a.lo.val=p at *;generalize fx a.hi.val=q at *;generalize fx b.lo.val=r at *;generalize fx b.hi.val=s at *
 exact ⟨zU [x,y,p,q,r,s] (pn (sn h1) (sn k2)),zU [x,y,p,q,r,s] (pn (sn h2) (sn k1))⟩
theorem In.dbl {x:Re} {a:Iv} (h:In x a):In (2*x) (zbG a):=fun ok=>by
 obtain ⟨o1,e1,e2⟩:=zFw ok
 obtain ⟨h1,h2⟩:=h o1
 rw [e1,e2,show 2*a.lo.val=a.lo.val+a.lo.val by omega,show 2*a.hi.val=a.hi.val+a.hi.val by omega,zp5,zp5]
 generalize fx a.lo.val=p at *;generalize fx a.hi.val=q at *
 exact ⟨zU [x,p,q] (kn 2 (sn h1)),zU [x,p,q] (kn 2 (sn h2))⟩
theorem zE0 {a:Iv} (h:ze (zW a)=true):ze a=true/\(zW a).lo.val= -a.hi.val/\(zW a).hi.val= -a.lo.val:=by
 simp only [zW,zhe,Tr.get] at h ⊢
 cases ha:ze a
 ·rw [ha] at h;simp only [Bool.not_false,ctr] at h;rw [zch] at h;cases h
 have b:=(zbC _).1 ha
 have e1:(Rng.w .i64 (0-a.hi.val)).val= -a.hi.val:=by rw [wi (by omega) (by omega)];omega
 have e2:(Rng.w .i64 (0-a.lo.val)).val= -a.lo.val:=by rw [wi (by omega) (by omega)];omega
 simp only [ha,Bool.not_true,cfl] at h ⊢
 rw [zb3 (by rw [e1,e2];omega)]
 exact ⟨trivial,e1,e2⟩
theorem In.neg {x:Re} {a:Iv} (h:In x a):In (-x) (zW a):=fun ok=>by
 obtain ⟨o1,e1,e2⟩:=zE0 ok
 obtain ⟨h1,h2⟩:=h o1
 rw [e1,e2,zeR,zeR]
 generalize fx a.lo.val=p at *;generalize fx a.hi.val=q at *
 exact ⟨zU [x,q] (sn h2),zU [x,p] (sn h1)⟩
theorem zjF {p d:Int} (hd:0<d):zi (p/d)*zi d<=zi p:=by
 rw [<- zc8,zlh]
 have:=Int.ediv_mul_le p (show d≠0 by omega)
 omega
theorem zrX (x y:Int):fx (x*y/4294967296)<=fx x*fx y:=by
 have:=zjF (p:=x*y) (d:=4294967296) (by decide)
 rw [zc8 x y] at this
 unfold fx
 generalize zi (x*y/4294967296)=q at *;generalize zi x=a at *;generalize zi y=b at *
 rw [show zi 4294967296=rat 4294967296 from rfl] at this
 exact zU [q,a,b] (kn (1/18446744073709551616) (sn this))
theorem zxx (x y:Int):fx x*fx y<=fx (-(-(x*y)/4294967296)):=by
 have:=zrX (-x) y
 rw [show -x*y= -(x*y) from Int.neg_mul x y,zeR x] at this
 rw [zeR]
 generalize fx (-(x*y)/4294967296)=q at *;generalize fx x=a at *;generalize fx y=b at *
 exact zU [q,a,b] (sn this)
theorem zu7 {p q r s x y L:Re} (hx:p<=x) (hx':x<=q) (hy:r<=y) (hy':y<=s) (h1:L<=p*r) (h2:L<=p*s) (h3:L<=q*r) (h4:L<=q*s):L<=x*y:=by
 have a:∀u,L<=u*r->L<=u*s->L<=u*y:=fun u k1 k2=>by
  rcases le_total 0 u with m|m
  ·exact le_trans k1 (zU [u,r,y] (mn m (sn hy)))
  ·exact le_trans k2 (zU [u,s,y] (mn (zmh m) (sn hy')))
 have b1:=a p h1 h2
 have b2:=a q h3 h4
 rcases le_total 0 y with m|m
 ·exact le_trans b1 (zU [p,x,y] (mn (sn hx) m))
 ·exact le_trans b2 (zU [q,x,y] (mn (sn hx') (zmh m)))
theorem zyu {p q r s x y L:Re} (hx:p<=x) (hx':x<=q) (hy:r<=y) (hy':y<=s) (h1:p*r<=L) (h2:p*s<=L) (h3:q*r<=L) (h4:q*s<=L):x*y<=L:=by
 have:=zu7 (L:= -L) (p:= -q) (q:= -p) (x:= -x) (zU [q,x] (sn hx')) (zU [p,x] (sn hx)) hy hy'
  (zU [q,r,L] (sn h3)) (zU [q,s,L] (sn h4)) (zU [p,r,L] (sn h1)) (zU [p,s,L] (sn h2))
 exact zU [x,y,L] (sn this)
theorem In.mul {x y:Re} {a b:Iv} (h:In x a) (k:In y b):In (x*y) (zz a b):=fun ok=>by
 obtain ⟨o1,o2,hc⟩:=zyT ok
 obtain ⟨h1,h2⟩:=h o1
 obtain ⟨k1,k2⟩:=k o2
 have lo:∀u v:I64,(u=a.lo\/u=a.hi)->(v=b.lo\/v=b.hi)->fx (zz a b).lo.val<=fx u.val*fx v.val:=fun u v hu hv=>le_trans (zer.2 (hc u v hu hv).1) (zrX _ _)
 have hi:∀u v:I64,(u=a.lo\/u=a.hi)->(v=b.lo\/v=b.hi)->fx u.val*fx v.val<=fx (zz a b).hi.val:=fun u v hu hv=>le_trans (zxx _ _) (zer.2 (hc u v hu hv).2)
 exact ⟨zu7 h1 h2 k1 k2 (lo _ _ (.inl rfl) (.inl rfl)) (lo _ _ (.inl rfl) (.inr rfl)) (lo _ _ (.inr rfl) (.inl rfl)) (lo _ _ (.inr rfl) (.inr rfl)),
  zyu h1 h2 k1 k2 (hi _ _ (.inl rfl) (.inl rfl)) (hi _ _ (.inl rfl) (.inr rfl)) (hi _ _ (.inr rfl) (.inl rfl)) (hi _ _ (.inr rfl) (.inr rfl))⟩
theorem zqJ {a:Iv} (h:ze a=true):0<=(zai a).a.val/\((a.lo.val<=0/\0<=a.hi.val/\(zai a).a.val=0)\/(0<a.lo.val/\(zai a).a.val=a.lo.val)\/(a.hi.val<0/\(zai a).a.val= -a.hi.val)) /\
  a.hi.val<=(zai a).b.val /\ -a.lo.val<=(zai a).b.val/\(zai a).b.val<1152921504606846976/\(zai a).a.val<=(zai a).b.val:=by
 have b:=(zbC _).1 h
 have n1:(Rng.w .i64 (0-a.lo.val)).val= -a.lo.val:=by rw [wi (by omega) (by omega)];omega
 have n2:(Rng.w .i64 (0-a.hi.val)).val= -a.hi.val:=by rw [wi (by omega) (by omega)];omega
 have m1:=zgM a.lo (.w .i64 (0-a.lo.val))
 have m2:=zgM a.hi (.w .i64 (0-a.hi.val))
 have m3:=zgM (zA a.lo (.w .i64 (0-a.lo.val))) (zA a.hi (.w .i64 (0-a.hi.val)))
 have m4:=zia (zA a.lo (.w .i64 (0-a.lo.val))) (zA a.hi (.w .i64 (0-a.hi.val)))
 rw [n1] at m1
 rw [n2] at m2
 have hh:zbr a ⟨0,rfl⟩=decide (a.lo.val<=0/\0<=a.hi.val):=by simp only [zbr,zeZ,Tr.get,zcO]
 simp only [zai,ziw,Tr.get,hh]
 by_cases c:a.lo.val<=0/\0<=a.hi.val
 ·simp only [c,and_self,decide_true,ctr]
  exact ⟨by decide,by first|exact .inl trivial|simp [c.1,c.2],by omega,by omega,by omega,by omega⟩
 ·simp only [c,decide_false,cfl]
  exact ⟨by omega,by omega,by omega,by omega,by omega,by omega⟩
theorem In.ends {x:Re} {a:Iv} (h:In x a) (o:ze a=true):fx (zai a).a.val<=An.abs x/\An.abs x<=fx (zai a).b.val:=by
 obtain ⟨h1,h2⟩:=h o
 obtain ⟨e0,e1,e2,e3,e4,e5⟩:=zqJ o
 constructor
 ·rcases e1 with ⟨_,_,e⟩|⟨k,e⟩|⟨k,e⟩
  ·rw [e,fx_0];exact zeS x
  ·rw [e];exact le_trans h1 (zoA x)
  ·rw [e,zeR]
   have:=zih x
   generalize fx a.hi.val=q at *;generalize An.abs x=u at *
   exact zU [x,q,u] (pn (sn this) (sn h2))
 ·refine zeT ?_ (le_trans h2 (zer.2 e2))
  refine le_trans ?_ h1
  rw [<- zeR];exact zer.2 (by omega)
theorem In.sqr {x:Re} {a:Iv} (h:In x a):In (x*x) (zbg a):=fun ok=>by
 obtain ⟨o1,e1,e2⟩:=zEz ok
 obtain ⟨h1,h2⟩:=h.ends o1
 have e0:=(zqJ o1).1
 rw [e1,e2,<- zsg]
 exact ⟨le_trans (zrX _ _) (zxk (zBq e0) h1 (zBq e0) h1),le_trans (zxk (zeS x) h2 (zeS x) h2) (zxx _ _)⟩
theorem zBE {a:Int} (h:0<=a):0<=zi a:=by rw [<- zi_0];exact zlh.2 h
theorem zDf (a:Int):fx a*fx a=zi (a*a)*rat (1/18446744073709551616):=by
 unfold fx;rw [zc8];generalize zi a=x;exact ring [x]
theorem zI4 (a:Int):fx a=zi (a*4294967296)*rat (1/18446744073709551616):=by
 unfold fx;rw [zc8];generalize zi a=x;show _=x*rat (4294967296:Int)*_;exact ring [x]
theorem zEj {a b:Int} (h:a<=b):zi a*rat (1/18446744073709551616)<=zi b*rat (1/18446744073709551616):=by
 have:=zlh.2 h;generalize zi a=x at *;generalize zi b=y at *;exact zU [x,y] (mn (sn this) (qn (1/18446744073709551616)))
theorem In.sqrt {x:Re} {a:Iv} (h:In x a):In (An.sqrt x) (zcs a):=fun ok=>by
 obtain ⟨o1,o2⟩:=zEx ok
 obtain ⟨_,e1,e2⟩:=zEy o1 o2
 have b:=(zbC _).1 o1
 obtain ⟨h1,h2⟩:=h o1
 have x0:=le_trans (zBq o2) h1
 rw [e1,e2]
 obtain ⟨q,p,s1,s2,t0,t1,t2,t3,t4,t5,t6,t7⟩:=zuZ a.lo (by omega)
 obtain ⟨q',p',s1',s2',t0',t1',t2',t3',t4',t5',t6',t7'⟩:=zuZ a.hi (by omega)
 rw [s1,s2']
 simp only
 constructor
 ·refine zob (An.zrb x) ?_
  rw [An.zo7 x0,zDf]
  refine le_trans ?_ h1
  rw [zI4];exact zEj t2
 ·refine zob (zBq (by omega)) ?_
  rw [An.zo7 x0,zDf]
  refine le_trans h2 ?_
  rw [zI4];exact zEj t6'
theorem zrY {x y:Int} (hy:0<y):fx (x*4294967296/y)<=fx x/fx y:=by
 rw [zrR (fx_p hy)]
 have:=zjF (p:=x*4294967296) hy
 unfold fx
 rw [zc8 x] at this
 generalize zi (x*4294967296/y)=q at *;generalize zi x=a at *;generalize zi y=b at *
 rw [show zi 4294967296=rat 4294967296 from rfl] at this
 exact zU [q,a,b] (kn (1/18446744073709551616) (sn this))
theorem zHh (x y:Re): -x/y= -(x/y):=by rw [div_eq,div_eq,An.neg_mul]
theorem zxy {x y:Int} (hy:0<y):fx x/fx y<=fx (-(-x*4294967296/y)):=by
 have:=zrY (x:= -x) hy
 rw [zeR,zHh] at this
 rw [zeR]
 generalize fx (-x*4294967296/y)=q at *;generalize fx x/fx y=a at *
 exact zU [q,a] (sn this)
theorem zAo {y s:Re} (h0:0<y) (h:y<=s):s⁻¹<=y⁻¹:=by
 have hs:=lt_of_lt_of_le h0 h
 have e1:=zjh (ne_of_gt h0)
 have e2:=zjh (ne_of_gt hs)
 refine zdM (mp h0 hs) ?_
 generalize y⁻¹=a at *;generalize s⁻¹=b at *
 rw [show b*(y*s)=y*(s*b) from ring [b,y,s],show a*(y*s)=s*(y*a) from ring [a,y,s],e1,e2]
 exact zU [y,s] (sn h)
theorem In.div_pos {x y:Re} {a b:Iv} (h:In x a) (k:In y b) (h0:0<b.lo.val):In (x/y) (zO a b):=fun ok=>by
 obtain ⟨o1,o2,hc⟩:=zze h0 ok
 obtain ⟨h1,h2⟩:=h o1
 obtain ⟨k1,k2⟩:=k o2
 have b':=(zbC _).1 o2
 have y0:=lt_of_lt_of_le (fx_p h0) k1
 have i1:=zAo y0 k2
 have i2:=zAo (fx_p h0) k1
 have p0:∀v:I64,(v=b.lo\/v=b.hi)->0<v.val:=by rintro v (rfl|rfl)<;>omega
 have lo:∀u v:I64,(u=a.lo\/u=a.hi)->(v=b.lo\/v=b.hi)->fx (zO a b).lo.val<=fx u.val*(fx v.val)⁻¹:=fun u v hu hv=>le_trans (zer.2 (hc u v hu hv).1) (zrY (p0 v hv))
 have hi:∀u v:I64,(u=a.lo\/u=a.hi)->(v=b.lo\/v=b.hi)->fx u.val*(fx v.val)⁻¹<=fx (zO a b).hi.val:=fun u v hu hv=>le_trans (zxy (p0 v hv)) (zer.2 (hc u v hu hv).2)
 exact ⟨zu7 h1 h2 i1 i2 (lo _ _ (.inl rfl) (.inr rfl)) (lo _ _ (.inl rfl) (.inl rfl)) (lo _ _ (.inr rfl) (.inr rfl)) (lo _ _ (.inr rfl) (.inl rfl)),
  zyu h1 h2 i1 i2 (hi _ _ (.inl rfl) (.inr rfl)) (hi _ _ (.inl rfl) (.inl rfl)) (hi _ _ (.inr rfl) (.inr rfl)) (hi _ _ (.inr rfl) (.inl rfl))⟩
end Go.Proofs.YtkenfaengphiiaaGreatDoor.Nc
namespace Go.Proofs.YtkenfaengphiiaaGreatDoor.Nc
open Go Go.Proofs.YtkenfaengphiiaaGreatDoor.An
open Go.Proofs.YtkenfaengphiiaaGreatDoor.Ev hiding mn zfC neg_eq zmJ sub_eq
theorem zrW {a b:Iv} (ha:ze a=true) (hb:ze b=true):ze (zaM a b)=true/\(zaM a b).lo.val<=a.lo.val/\(zaM a b).lo.val<=b.lo.val/\a.hi.val<=(zaM a b).hi.val/\b.hi.val<=(zaM a b).hi.val/\((zaM a b).lo.val=a.lo.val\/(zaM a b).lo.val=b.lo.val)/\((zaM a b).hi.val=a.hi.val\/(zaM a b).hi.val=b.hi.val):=by
 have oa:=(zbC _).1 ha
 have ob:=(zbC _).1 hb
 have m1:=zia a.lo b.lo
 have m2:=zgM a.hi b.hi
 simp only [zaM,zkA,Tr.get,ha,hb,Bool.not_true,cfl]
 rw [zb3 (by omega)]
 exact ⟨(zbC _).2 (by simp only;omega),by simp only;omega,by simp only;omega,by simp only;omega,by simp only;omega,by simp only;omega,by simp only;omega⟩
theorem zDc {a b:Iv} (h:ze (zaM a b)=true):ze a=true/\ze b=true:=by
 simp only [zaM,zkA,Tr.get] at h
 cases ha:ze a
 ·rw [ha] at h;simp only [Bool.not_false,ctr] at h;rw [zch] at h;cases h
 cases hb:ze b
 ·rw [ha,hb] at h;simp only [Bool.not_false,Bool.not_true,ctr,cfl] at h;rw [zch] at h;cases h
 exact ⟨rfl,rfl⟩
theorem In.hull_l {x:Re} {a b:Iv} (h:In x a):In x (zaM a b):=fun ok=>by
 obtain ⟨oa,ob⟩:=zDc ok
 have hv:=zrW oa ob
 obtain ⟨h1,h2⟩:=h oa
 exact ⟨le_trans (zer.2 hv.2.1) h1,le_trans h2 (zer.2 hv.2.2.2.1)⟩
theorem In.hull_r {x:Re} {a b:Iv} (h:In x b):In x (zaM a b):=fun ok=>by
 obtain ⟨oa,ob⟩:=zDc ok
 have hv:=zrW oa ob
 obtain ⟨h1,h2⟩:=h ob
 exact ⟨le_trans (zer.2 hv.2.2.1) h1,le_trans h2 (zer.2 hv.2.2.2.2.1)⟩
theorem In.between {x y z:Re} {a:Iv} (h:In x a) (k:In y a) (h1:x<=z) (h2:z<=y):In z a:=fun ok=>⟨le_trans (h ok).1 h1,le_trans h2 (k ok).2⟩
theorem In.int {n:I64} (h: -268435455<=n.val/\n.val<=268435455):In (zi n.val) (zy n):=fun _=>by
 have e:(Rng.w .i64 (n.val*4294967296)).val=n.val*4294967296:=wi (by omega) (by omega)
 rw [zmR h]
 simp only [e,zDe]
 exact ⟨le_refl _,le_refl _⟩
theorem In.one:In 1 (zy ⟨1,rfl⟩):=In.int (n:=⟨1,rfl⟩) (by decide)
theorem zDb {n:I64} (h: -268435455<=n.val/\n.val<=268435455):ze (zy n)=true/\(zy n).lo.val=n.val*4294967296/\(zy n).hi.val=n.val*4294967296:=by
 have e:(Rng.w .i64 (n.val*4294967296)).val=n.val*4294967296:=wi (by omega) (by omega)
 rw [zmR h]
 exact ⟨(zbC _).2 (by simp only [e];omega),e,e⟩
theorem In.over {x:Re} {a:Iv} (h:In x a) {n:I64} (q:Nat) (hn:n.val=((q+1:Nat):Int)) (hq:q<=268435454):In (x*rat (1/((q+1:Nat):Rat))) (zO a (zy n)):=by
 have hb: -268435455<=n.val/\n.val<=268435455:=by omega
 have:=h.div_pos (In.int hb) (by rw [(zDb hb).2.1];omega)
 have e:x/zi n.val=x*rat (1/((q+1:Nat):Rat)):=by
  rw [hn,zzB]
  have i:=zvD q
  have p:0<rat ((q+1:Nat):Rat):=zCF (Nat.succ_pos q)
  refine zgN (ne_of_gt p) ?_
  rw [div_mul (ne_of_gt p)]
  generalize rat ((q+1:Nat):Rat)=u at *;generalize rat (1/((q+1:Nat):Rat))=v at *
  exact zj9 [x,u,v] (congrArg (fun t=>x * -t) i:x * -(u*v)=x * -1)
 rwa [e] at this
theorem znN:ze zR=true/\zR.lo.val= -4294967296/\zR.hi.val=4294967296:=⟨(zbC _).2 (by decide +kernel),rfl,rfl⟩
theorem zBr:fx (-4294967296)= -1:=by rw [zeR,fx_1]
theorem In.ring {x:Re} (h1: -1<=x) (h2:x<=1):In x zR:=fun _=>by
 rw [znN.2.1,znN.2.2,zBr,fx_1];exact ⟨h1,h2⟩
theorem In.tiny {x:Re} (h:An.abs x<=rat (1/4294967296)):In x zce:=fun _=>by
 obtain ⟨a,b⟩:=zdT h
 have e1:zce.lo.val= -1:=rfl
 have e2:zce.hi.val=1:=rfl
 have e3:fx 1=rat (1/4294967296):=one_mul _
 rw [e1,e2,zeR,e3];exact ⟨a,b⟩
theorem zrI (a:Iv):ze (zaG a)=true /\ -4294967296<=(zaG a).lo.val/\(zaG a).hi.val<=4294967296 /\
  ((zaG a).lo.val= -4294967296\/(ze a=true/\(zaG a).lo.val=a.lo.val))/\((zaG a).hi.val=4294967296\/(ze a=true/\(zaG a).hi.val=a.hi.val)):=by
 have o:=znN.1
 have e1:zR.lo.val= -4294967296:=rfl
 have e2:zR.hi.val=4294967296:=rfl
 simp only [zaG,ziu,za4,zdp,Tr.get,o,Bool.not_true,cfl]
 cases ha:ze a
 ·simp only [Bool.not_false,Bool.not_true,ctr,cfl];exact ⟨o,by omega,by omega,.inl e1,.inl e2⟩
 have ba:=(zbC _).1 ha
 have m1:=zgM a.lo zR.lo
 have m2:=zia a.hi zR.hi
 rw [e1] at m1
 rw [e2] at m2
 simp only [Bool.not_true,cfl]
 by_cases hlt:(zA a.lo zR.lo).val>(zC a.hi zR.hi).val
 ·simp only [hlt,decide_true,ctr,Bool.not_false];exact ⟨o,by omega,by omega,.inl e1,.inl e2⟩
 ·simp only [hlt,decide_false,cfl,Bool.not_true]
  refine ⟨(zbC _).2 (by first|omega|(simp only;omega)),by first|omega|(simp only;omega),by first|omega|(simp only;omega),?_,?_⟩
  ·simp only [true_and];omega
  ·simp only [true_and];omega
theorem In.meet {x:Re} {a:Iv} (h:In x a) (h1: -1<=x) (h2:x<=1):In x (zaG a):=fun ok=>by
 obtain ⟨_,_,_,m1,m2⟩:=zrI a
 constructor
 ·rcases m1 with e|⟨o,e⟩
  ·rw [e,zBr];exact h1
  ·rw [e];exact (h o).1
 ·rcases m2 with e|⟨o,e⟩
  ·rw [e,fx_1];exact h2
  ·rw [e];exact (h o).2
def chk (n:Int):Bool:=decide ((n*7244019458077122842)%1073741824+n<=1073741824)
def zFx:Nat->Bool
 | 0=>true
 | n+1=>chk ((n+1:Nat):Int)&&zFx n
theorem zH4:zFx 4096=true:=by kernel_rfl
theorem zJh {n:Nat} (h:zFx n=true) {m:Int} (h1:0<m) (h2:m<=(n:Int)):(m*7244019458077122842)%1073741824+m<=1073741824:=by
 induction n with
 | zero=>exact absurd h1 (by omega)
 | succ n ih=>
  simp only [zFx,Bool.and_eq_true] at h
  by_cases k:m=((n+1:Nat):Int)
  ·rw [k];exact of_decide_eq_true h.1
  ·exact ih h.2 (by omega)
theorem zzI {k:I64} (h:0<k.val) (h':k.val<=4096):(zaQ k).lo.val=k.val*7244019458077122842/1073741824/\(zaQ k).hi.val=k.val*7244019458077122842/1073741824+1 /\
  (zcj k).lo.val=k.val*7244019458077122842/1073741824/\(zcj k).hi.val=k.val*7244019458077122842/1073741824+1:=by
 obtain ⟨e,b1,b2⟩:=zBT h h'
 have e0:(k.val==0)=false:=by simp;omega
 have hd:decide (k.val<0)=false:=by simp;omega
 simp only [zaQ,zdo,zcj,zdW,Tr.get,e0,hd,e,cfl]
 have e1:(Rng.w .i64 (k.val*7244019458077122842/1073741824)).val=k.val*7244019458077122842/1073741824:=wi (by omega) (by omega)
 rw [e1]
 have e2:(Rng.w .i64 (k.val*7244019458077122842/1073741824+1)).val=k.val*7244019458077122842/1073741824+1:=wi (by omega) (by omega)
 exact ⟨rfl,e2,rfl,e2⟩
theorem zq7 {k:Int} (h:0<k) (h':k<=4096):fx (k*7244019458077122842/1073741824)<=qt k/\qt k<=fx (k*7244019458077122842/1073741824+1):=by
 have hk2:=zJh zH4 (m:=k) h (by omega)
 have f1:(k*7244019458077122842/1073741824)*1073741824<=k*7244019458077122842:=by omega
 have f2:k*7244019458077122843<=(k*7244019458077122842/1073741824+1)*1073741824:=by omega
 have g1:=zlh.2 f1
 have g2:=zlh.2 f2
 rw [zc8,zc8] at g1 g2
 have z0:=zBE (show 0<=k by omega)
 have p1:=zHA
 have p2:=zHB
 unfold fx qt
 generalize zi (k*7244019458077122842/1073741824)=q at *;generalize zi (k*7244019458077122842/1073741824+1)=q' at *;generalize zi k=z at *
 rw [show zi 1073741824=rat 1073741824 from rfl] at g1 g2
 rw [show zi 7244019458077122842=rat 7244019458077122842 from rfl] at g1
 rw [show zi 7244019458077122843=rat 7244019458077122843 from rfl] at g2
 generalize hp=p at *
 exact ⟨zU [q,z,p] (pn (kn (1/4611686018427387904) (sn g1)) (mn z0 (sn p1))),zU [q',z,p] (pn (kn (1/4611686018427387904) (sn g2)) (mn z0 (sn p2)))⟩
theorem In.turn {k:I64} (h: -4096<=k.val) (h':k.val<=4096):ze (za3 k)=true/\fx (za3 k).lo.val<=qt k.val/\qt k.val<=fx (za3 k).hi.val:=by
 obtain ⟨g,e⟩:=zjf h h'
 rw [e]
 by_cases k0:k.val=0
 ·have e0:(k.val==0)=true:=by simp [k0]
  have ev:zaQ k=⟨⟨0,rfl⟩,⟨0,rfl⟩⟩:=by simp only [zaQ,zdo,Tr.get,e0,ctr]
  rw [ev,k0]
  refine ⟨(zbC _).2 (by decide),?_,?_⟩
  ·show fx 0<=qt 0;rw [fx_0,qt_0];exact le_refl _
  ·show qt 0<=fx 0;rw [fx_0,qt_0];exact le_refl _
 by_cases kp:0<k.val
 ·obtain ⟨v1,v2,_,_⟩:=zzI kp h'
  obtain ⟨r1,r2⟩:=zq7 kp h'
  refine ⟨(zbC _).2 ?_,by rw [v1];exact r1,by rw [v2];exact r2⟩
  rw [v1,v2];omega
 ·have en:(Rng.w .i64 (0-k.val)).val= -k.val:=by rw [wi (by omega) (by omega)];omega
  obtain ⟨_,_,v1,v2⟩:=zzI (k:= .w .i64 (0-k.val)) (by rw [en];omega) (by rw [en];omega)
  obtain ⟨r1,r2⟩:=zq7 (k:= -k.val) (by omega) (by omega)
  rw [en] at v1 v2
  have e0:(k.val==0)=false:=by simp [k0]
  have hd:decide (k.val<0)=true:=by simp;omega
  obtain ⟨x,h1,h2,h3⟩:=zBR (.w .i64 (0-k.val)) (by rw [en];omega) (by rw [en];omega)
  have g1:zff (.w .i64 (0-k.val))=true:=by unfold zff;rw [h1];rfl
  have w1:(Rng.w .i64 (0-(zcj (.w .i64 (0-k.val))).hi.val)).val= -(-k.val*7244019458077122842/1073741824+1):=by rw [v2,wi (by omega) (by omega)];omega
  have w2:(Rng.w .i64 (0-(zcj (.w .i64 (0-k.val))).lo.val)).val= -(-k.val*7244019458077122842/1073741824):=by rw [v1,wi (by omega) (by omega)];omega
  have ev:zaQ k=⟨.w .i64 (0-(zcj (.w .i64 (0-k.val))).hi.val),.w .i64 (0-(zcj (.w .i64 (0-k.val))).lo.val)⟩:=by
   simp only [zaQ,zdo,Tr.get,e0,hd,g1,ctr,cfl]
  rw [ev]
  simp only [w1,w2]
  have qn':=zw7 k.val
  rw [qn'] at r1 r2
  refine ⟨(zbC _).2 (by simp only [w1,w2];omega),?_,?_⟩
  ·rw [zeR];generalize fx (-k.val*7244019458077122842/1073741824+1)=u at *;generalize qt k.val=v at *;exact zU [u,v] (sn r2)
  ·rw [zeR];generalize fx (-k.val*7244019458077122842/1073741824)=u at *;generalize qt k.val=v at *;exact zU [u,v] (sn r1)
theorem In.turn' {k:I64} (h: -4096<=k.val) (h':k.val<=4096):In (qt k.val) (za3 k):=fun _=>(In.turn h h').2
def rad (n:Int):Re:=zi n*(hp*rat (1/900000000))
theorem zpb (n:Int):rad (-n)= - rad n:=by unfold rad;rw [zn2,An.neg_mul]
theorem zCl (m n:Int):rad (m+n)=rad m+rad n:=by unfold rad;rw [zpW,An.add_mul]
theorem zKY:rad 0=0:=An.zero_mul _
theorem zzU {n:Int} (h:0<n):fx (n*7244019458077122842/966367641600000000)<=rad n/\rad n<=fx (n*7244019458077122843/966367641600000000+1):=by
 have f1:(n*7244019458077122842/966367641600000000)*966367641600000000<=n*7244019458077122842:=by omega
 have f2:n*7244019458077122843<=(n*7244019458077122843/966367641600000000+1)*966367641600000000:=by omega
 have g1:=zlh.2 f1
 have g2:=zlh.2 f2
 rw [zc8,zc8] at g1 g2
 have z0:=zBE (show 0<=n by omega)
 have p1:=zHA
 have p2:=zHB
 unfold fx rad
 generalize zi (n*7244019458077122842/966367641600000000)=q at *;generalize zi (n*7244019458077122843/966367641600000000+1)=q' at *;generalize zi n=z at *
 rw [show zi 966367641600000000=rat 966367641600000000 from rfl] at g1 g2
 rw [show zi 7244019458077122842=rat 7244019458077122842 from rfl] at g1
 rw [show zi 7244019458077122843=rat 7244019458077122843 from rfl] at g2
 generalize hp=p at *
 exact ⟨zU [q,z,p] (pn (kn (1/4150517416584649113600000000) (sn g1)) (kn (1/900000000) (mn z0 (sn p1)))),zU [q',z,p] (pn (kn (1/4150517416584649113600000000) (sn g2)) (kn (1/900000000) (mn z0 (sn p2))))⟩
theorem zyw {n:I64} (h:0<n.val) (h':n.val<=36000000000):((zD n).lo.val=n.val*7244019458077122842/966367641600000000/\(zD n).hi.val=n.val*7244019458077122843/966367641600000000+1) /\
  ((zcD n).lo.val=n.val*7244019458077122842/966367641600000000/\(zcD n).hi.val=n.val*7244019458077122843/966367641600000000+1)/\zea n=true:=by
 have e0:(n.val==0)=false:=by simp;omega
 have hd:decide (n.val<0)=false:=by simp;omega
 have hi:zX n ⟨(-36000000000),rfl⟩ ⟨36000000000,rfl⟩=true:=by rw [zcO];simp;omega
 have m1:zbb n ⟨7244019458077122842,rfl⟩ ⟨966367641600000000,rfl⟩=⟨.w .i64 (n.val*7244019458077122842/966367641600000000),true⟩:=by
  rw [zd9,MD,if_pos (by decide)];exact zfd (by simp only;omega) (by simp only;omega)
 have m2:zbb n ⟨7244019458077122843,rfl⟩ ⟨966367641600000000,rfl⟩=⟨.w .i64 (n.val*7244019458077122843/966367641600000000),true⟩:=by
  rw [zd9,MD,if_pos (by decide)];exact zfd (by simp only;omega) (by simp only;omega)
 have w1:(Rng.w .i64 (n.val*7244019458077122842/966367641600000000)).val=n.val*7244019458077122842/966367641600000000:=wi (by omega) (by omega)
 have w2:(Rng.w .i64 (n.val*7244019458077122843/966367641600000000)).val=n.val*7244019458077122843/966367641600000000:=wi (by omega) (by omega)
 have w3:(Rng.w .i64 (n.val*7244019458077122843/966367641600000000+1)).val=n.val*7244019458077122843/966367641600000000+1:=wi (by omega) (by omega)
 refine ⟨?_,?_,?_⟩
 ·simp only [zD,zbT,Tr.get,hi,e0,hd,m1,m2,zj3,ctr,cfl,Bool.not_true,w1,w2,w3,and_self]
 ·simp only [zcD,zb4,Tr.get,hi,e0,hd,m1,m2,zj3,ctr,cfl,Bool.not_true,w1,w2,w3,and_self]
 ·simp only [zea,zb4,Tr.opt,hi,e0,hd,m1,m2,zj3,ctr,cfl,Bool.not_true,Option.isSome]
theorem In.rad {n:I64}:In (rad n.val) (zD n):=by
 by_cases hr: -36000000000<=n.val/\n.val<=36000000000
 ·have hi:zX n ⟨(-36000000000),rfl⟩ ⟨36000000000,rfl⟩=true:=by rw [zcO];simpa using hr
  by_cases k0:n.val=0
  ·have e0:(n.val==0)=true:=by simp [k0]
   have ev:zD n=⟨⟨0,rfl⟩,⟨0,rfl⟩⟩:=by simp only [zD,zbT,Tr.get,hi,e0,ctr,cfl,Bool.not_true]
   rw [ev,k0]
   intro _
   show fx 0<=Nc.rad 0/\Nc.rad 0<=fx 0
   rw [fx_0,zKY];exact ⟨le_refl _,le_refl _⟩
  by_cases kp:0<n.val
  ·intro _
   rw [(zyw kp hr.2).1.1,(zyw kp hr.2).1.2]
   exact zzU kp
  ·have en:(Rng.w .i64 (0-n.val)).val= -n.val:=by rw [wi (by omega) (by omega)];omega
   obtain ⟨_,⟨v1,v2⟩,g⟩:=zyw (n:= .w .i64 (0-n.val)) (by rw [en];omega) (by rw [en];omega)
   have e0:(n.val==0)=false:=by simp [k0]
   have hd:decide (n.val<0)=true:=by simp;omega
   simp only [zD,zbT,Tr.get,hi,e0,hd,g,ctr,cfl,Bool.not_true]
   have:In (Nc.rad (-n.val)) (zcD (.w .i64 (0-n.val))):=fun _=>by
    rw [v1,v2,en];exact zzU (by omega)
   have:=this.neg
   rw [zpb] at this
   rwa [show - - Nc.rad n.val=Nc.rad n.val from by generalize Nc.rad n.val=u;exact An.ring [u]] at this
 ·have hi:zX n ⟨(-36000000000),rfl⟩ ⟨36000000000,rfl⟩=false:=by rw [zcO];simpa using hr
  simp only [zD,zbT,Tr.get,hi,Bool.not_false,ctr,zdi]
  exact In.whole _
end Go.Proofs.YtkenfaengphiiaaGreatDoor.Nc
namespace Go.Proofs.YtkenfaengphiiaaGreatDoor.Nc
open Go Go.Proofs.YtkenfaengphiiaaGreatDoor.An
open Go.Proofs.YtkenfaengphiiaaGreatDoor.Ev hiding mn zfC neg_eq zmJ sub_eq
theorem In.over' {x:Re} {a:Iv} (h:In x a) {n:I64} (q:Nat) (r:Rat) (hn:n.val=((q+1:Nat):Int):=by kernel_rfl) (hq:decide (q<=268435454)=true:=by kernel_rfl) (hr:1/((q+1:Nat):Rat)=r:=by kernel_rfl):In (x*rat r) (zO a (zy n)):=by
 rw [<- hr];exact h.over q hn (of_decide_eq_true hq)
theorem In.zyr {y:Re} {a:Iv} (h:In y a):In (1-y*rat (1/6)*(1-y*rat (1/20)*(1-y*rat (1/42)*(1-y*rat (1/72)*(1-y*rat (1/110)*(1-y*rat (1/156)*(1-y*rat (1/210)*(1-y*rat (1/272)*1)))))))) (zba a ⟨0,rfl⟩):=by
 simp only [zba,zdV,Tr.get]
 exact (In.sub In.one (In.mul (h.over' 5 (1/6)) (In.sub In.one (In.mul (h.over' 19 (1/20)) (In.sub In.one (In.mul (h.over' 41 (1/42)) (In.sub In.one (In.mul (h.over' 71 (1/72)) (In.sub In.one (In.mul (h.over' 109 (1/110)) (In.sub In.one (In.mul (h.over' 155 (1/156)) (In.sub In.one (In.mul (h.over' 209 (1/210)) (In.sub In.one (In.mul (h.over' 271 (1/272)) In.one))))))))))))))))
theorem In.zyq {y:Re} {a:Iv} (h:In y a):In (1-y*rat (1/2)*(1-y*rat (1/12)*(1-y*rat (1/30)*(1-y*rat (1/56)*(1-y*rat (1/90)*(1-y*rat (1/132)*(1-y*rat (1/182)*(1-y*rat (1/240)*1)))))))) (zba a ⟨-1,rfl⟩):=by
 simp only [zba,zdV,Tr.get]
 exact (In.sub In.one (In.mul (h.over' 1 (1/2)) (In.sub In.one (In.mul (h.over' 11 (1/12)) (In.sub In.one (In.mul (h.over' 29 (1/30)) (In.sub In.one (In.mul (h.over' 55 (1/56)) (In.sub In.one (In.mul (h.over' 89 (1/90)) (In.sub In.one (In.mul (h.over' 131 (1/132)) (In.sub In.one (In.mul (h.over' 181 (1/182)) (In.sub In.one (In.mul (h.over' 239 (1/240)) In.one))))))))))))))))
theorem zGT {a:Iv} (h:za7 a zR=true):ze a=true /\ -4294967296<=a.lo.val/\a.hi.val<=4294967296:=by
 have e1:zR.lo.val= -4294967296:=rfl
 have e2:zR.hi.val=4294967296:=rfl
 simp only [za7,zgI,Tr.get,znN.1,Bool.not_true,cfl,e1,e2] at h
 revert h
 cases ze a<;>by_cases h1: -4294967296<=a.lo.val<;>simp [h1,ctr,cfl]
theorem In.abs1 {x:Re} {a:Iv} (h:In x a) (k:za7 a zR=true):An.abs x<=1:=by
 obtain ⟨o,k1,k2⟩:=zGT k
 obtain ⟨h1,h2⟩:=h o
 have l1:=zer.2 k1
 have l2:=zer.2 k2
 rw [zBr] at l1
 rw [fx_1] at l2
 exact zeT (le_trans l1 h1) (le_trans h2 l2)
theorem In.sinS {x:Re} {a:Iv} (h:In x a):In (sin x) (zbt a):=by
 simp only [zbt,zgY,Tr.get,zdi]
 cases hi:za7 a zR
 ·exact In.whole _
 simp only [Bool.not_true,cfl]
 have e:=le_trans (zA5 (h.abs1 hi)) (zj1 _ (1/4294967296))
 have:=(h.mul h.sqr.zyr).add (In.tiny e)
 generalize x*(1-(x*x)*rat (1/6)*(1-(x*x)*rat (1/20)*(1-(x*x)*rat (1/42)*(1-(x*x)*rat (1/72)*(1-(x*x)*rat (1/110)*(1-(x*x)*rat (1/156)*(1-(x*x)*rat (1/210)*(1-(x*x)*rat (1/272)*1))))))))=u at *;generalize sin x=s at *
 rwa [show u+(s-u)=s from An.ring [u,s]] at this
theorem In.cosS {x:Re} {a:Iv} (h:In x a):In (cos x) (zbu a):=by
 simp only [zbu,zg0,Tr.get,zdi]
 cases hi:za7 a zR
 ·exact In.whole _
 simp only [Bool.not_true,cfl]
 have e:=le_trans (zBw (h.abs1 hi)) (zj1 _ (1/4294967296))
 have:=h.sqr.zyq.add (In.tiny e)
 generalize (1-(x*x)*rat (1/2)*(1-(x*x)*rat (1/12)*(1-(x*x)*rat (1/30)*(1-(x*x)*rat (1/56)*(1-(x*x)*rat (1/90)*(1-(x*x)*rat (1/132)*(1-(x*x)*rat (1/182)*(1-(x*x)*rat (1/240)*1))))))))=u at *;generalize cos x=s at *
 rwa [show u+(s-u)=s from An.ring [u,s]] at this
def and4 (x:Int):Bool:=(Rng.w .i64 (zbv .and .i64 (Rng.w .i64 x).val 3)).val==x%4
def zAR:Nat->Bool
 | 0=>and4 0
 | n+1=>and4 (n+1:Nat)&&(and4 (-((n+1:Nat):Int))&&zAR n)
theorem zFM:zAR 600=true:=by kernel_rfl
theorem zId {n:Nat} (h:zAR n=true) {m:Int} (h1: -(n:Int)<=m) (h2:m<=n):(Rng.w .i64 (zbv .and .i64 (Rng.w .i64 m).val 3)).val=m%4:=by
 induction n with
 | zero=>
  have:m=0:=by omega
  subst this
  exact eq_of_beq h
 | succ n ih=>
  simp only [zAR,Bool.and_eq_true] at h
  by_cases k1:m=((n+1:Nat):Int)
  ·have:=h.1
   rw [<- k1] at this
   exact eq_of_beq this
  by_cases k2:m= -((n+1:Nat):Int)
  ·have:=h.2.1
   rw [<- k2] at this
   exact eq_of_beq this
  exact ih h.2.2 (by omega) (by omega)
theorem zEa {m:Int} (h1: -600<=m) (h2:m<=600):(Rng.w .i64 (zbv .and .i64 (Rng.w .i64 m).val 3)).val=m%4:=zId zFM h1 h2
theorem zB9 (x:Re): -1<=sin x/\sin x<=1:=⟨zqD x,zrd x⟩
theorem In.at {n t:I64} (ht:0<=t.val/\t.val<=3):In (sin (fx n.val+qt t.val)) (zbJ n t):=by
 have hs:=zB9 (fx n.val+qt t.val)
 simp only [zbJ,zkv,Tr.get]
 cases za5 n
 ·exact In.ring hs.1 hs.2
 have hb:=zif n
 have h4:=zEa (m:=(zan n).val+t.val) (by omega) (by omega)
 have hk:In (fx n.val-qt (zan n).val) (zac (zbq n) (za3 (zan n))):=by
  refine In.sub ?_ (In.turn' (by omega) (by omega))
  simp only [zbq,zhk,Tr.get]
  exact In.point
 simp only [Bool.not_true,cfl,h4]
 generalize zac (zbq n) (za3 (zan n))=c at hk
 have e:fx n.val+qt t.val=(fx n.val-qt (zan n).val)+qt ((zan n).val+t.val):=by
  rw [zw8];generalize fx n.val=u;generalize qt (zan n).val=v;generalize qt t.val=w;exact An.ring [u,v,w]
 rw [e] at hs ⊢
 generalize fx n.val-qt (zan n).val=r at *
 generalize (zan n).val+t.val=k at *
 have hk4:k%4=0\/k%4=1\/k%4=2\/k%4=3:=by omega
 rcases hk4 with h|h|h|h
 ·have e0:(k%4==0)=true:=by simp [h]
  simp only [e0,ctr]
  rw [zB8 r h] at hs ⊢
  exact hk.sinS.meet hs.1 hs.2
 ·have e0:(k%4==0)=false:=by simp [h]
  have e1:(k%4==1)=true:=by simp [h]
  simp only [e0,e1,ctr,cfl]
  rw [zB7 r h] at hs ⊢
  exact hk.cosS.meet hs.1 hs.2
 ·have e0:(k%4==0)=false:=by simp [h]
  have e1:(k%4==1)=false:=by simp [h]
  have e2:(k%4==2)=true:=by simp [h]
  simp only [e0,e1,e2,ctr,cfl]
  rw [zB6 r h] at hs ⊢
  exact hk.sinS.neg.meet hs.1 hs.2
 ·have e0:(k%4==0)=false:=by simp [h]
  have e1:(k%4==1)=false:=by simp [h]
  have e2:(k%4==2)=false:=by simp [h]
  simp only [e0,e1,e2,cfl]
  rw [zIA r h] at hs ⊢
  exact hk.cosS.neg.meet hs.1 hs.2
theorem zGU:ze zR=true /\ -4294967296<=zR.lo.val/\zR.hi.val<=4294967296:=⟨znN.1,by rw [znN.2.1];decide,by rw [znN.2.2];decide⟩
theorem zJr (n t:I64):ze (zbJ n t)=true /\ -4294967296<=(zbJ n t).lo.val/\(zbJ n t).hi.val<=4294967296:=by
 have m:∀a,ze (zaG a)=true /\ -4294967296<=(zaG a).lo.val/\(zaG a).hi.val<=4294967296:=fun a=>⟨(zrI a).1,(zrI a).2.1,(zrI a).2.2.1⟩
 simp only [zbJ,zkv,Tr.get]
 cases za5 n
 ·exact zGU
 simp only [Bool.not_true,cfl]
 generalize ((Rng.w .i64 (zbv .and .i64 (Rng.w .i64 ((zan n).val+t.val)).val 3)).val==0)=c0
 generalize ((Rng.w .i64 (zbv .and .i64 (Rng.w .i64 ((zan n).val+t.val)).val 3)).val==1)=c1
 generalize ((Rng.w .i64 (zbv .and .i64 (Rng.w .i64 ((zan n).val+t.val)).val 3)).val==2)=c2
 cases c0<;>cases c1<;>cases c2<;>exact m _
theorem zlR {n:I64} (h: -1099511627776<=n.val/\n.val<=1099511627776):(zan n).val=(n.val+3373259426)/6746518852:=by
 have ha:za5 n=true:=by simp only [za5,zev,Tr.get,zcO];simpa using h
 have hb:=h
 have e1:(Rng.w .i64 (n.val+3373259426)).val=n.val+3373259426:=wi (by omega) (by omega)
 have hs:Int.sign 6746518852=1:=rfl
 have ht:=Int.tdiv_eq_ediv (a:=n.val+3373259426) (b:=6746518852)
 have q1:(Rng.w .i64 ((n.val+3373259426).tdiv 6746518852)).val=(n.val+3373259426).tdiv 6746518852:=by
  refine wi ?_ ?_<;>(split at ht<;>omega)
 have hm:=Int.mul_tdiv_add_tmod (n.val+3373259426) 6746518852
 have m1:(Rng.w .i64 ((n.val+3373259426).tmod 6746518852)).val=(n.val+3373259426).tmod 6746518852:=by
  refine wi ?_ ?_<;>(split at ht<;>omega)
 have z:((6746518852:Int)==0)=false:=rfl
 simp only [zan,zgZ,Tr.get,ha,Bool.not_true,cfl,zkh,zki,zhD,Tr.opt,Tr.get,e1,q1,m1,z]
 by_cases hc:(n.val+3373259426).tmod 6746518852<0
 ·have w1:(Rng.w .i64 ((n.val+3373259426).tdiv 6746518852-1)).val=(n.val+3373259426).tdiv 6746518852-1:=by
   refine wi ?_ ?_<;>(split at ht<;>omega)
  simp only [hc,decide_true,ctr,Option.isSome_some,w1]
  split at ht<;>omega
 ·simp only [hc,decide_false,cfl,ctr,Option.isSome_some,q1]
  split at ht<;>omega
theorem zt7 {a b:Iv} (ha:ze a=true) (hb:ze b=true) (h1:a.lo.val<=b.hi.val) (h2:b.lo.val<=a.hi.val):zo a b=true:=by
 have oa:=(zbC _).1 ha
 have ob:=(zbC _).1 hb
 have m1:=zgM a.lo b.lo
 have m2:=zia a.hi b.hi
 have hn:¬(zA a.lo b.lo).val>(zC a.hi b.hi).val:=by omega
 simp only [zo,zdL,za4,zdp,Tr.get,ha,hb,Bool.not_true,cfl,hn,decide_false]
theorem zxq (x:Iv) (k':I64) (h1:k'.val<=(k1 x).val) (h2:zo (za3 k') x=true) (h3:(k1 x).val<=1000):
  ∀(n:Nat) (k:I64),-1000<=k.val->k.val<=k'.val->k'.val-k.val<n->k'∈zhg x n k:=by
 intro n
 induction n with
 | zero=>intro k _ _ h;omega
 | succ n ih=>
  intro k hl hk hn
  have hd:decide (k.val<=(k1 x).val)=true:=by simp;omega
  have en:(Rng.w .i64 (k.val+1)).val=k.val+1:=wi (by omega) (by omega)
  simp only [zhg,hd,ctr,zll,zjs]
  by_cases e:k.val=k'.val
  ·have e':k=k':=Rng.ext e
   subst e'
   simp only [h2,ctr]
   exact List.mem_cons_self ..
  ·have:=ih (.w .i64 (k.val+1)) (by omega) (by omega) (by omega)
   cases zo (za3 k) x
   ·exact this
   ·exact List.mem_cons_of_mem _ this
theorem zCy:ze (zy ⟨1,rfl⟩)=true/\(zy ⟨1,rfl⟩).lo.val=4294967296/\(zy ⟨1,rfl⟩).hi.val=4294967296:=zDb (n:=⟨1,rfl⟩) (by decide)
theorem zAb:ze (zy ⟨-1,rfl⟩)=true/\(zy ⟨-1,rfl⟩).lo.val= -4294967296/\(zy ⟨-1,rfl⟩).hi.val= -4294967296:=zDb (n:=⟨-1,rfl⟩) (by decide)
theorem zFb (t:I64):∀(L:List I64) (o:Iv),ze o=true->ze (zoC t L o)=true/\(zoC t L o).lo.val<=o.lo.val/\o.hi.val<=(zoC t L o).hi.val /\
  (∀k∈L,(zlz t k).val=1->4294967296<=(zoC t L o).hi.val)/\(∀k∈L,(zlz t k).val=3->(zoC t L o).lo.val <= -4294967296):=by
 intro L
 induction L with
 | nil=>intro o ho;exact ⟨ho,Int.le_refl _,Int.le_refl _,(fun k h=>by cases h),(fun k h=>by cases h)⟩
 | cons k L ih=>
  intro o ho
  simp only [zoC,zmS,zdZ]
  by_cases c1:(zlz t k).val=1
  ·have e1:((zlz t k).val==1)=true:=by simp [c1]
   simp only [e1,ctr]
   have hv:=zrW ho zCy.1
   obtain ⟨i1,i2,i3,i4,i5⟩:=ih _ hv.1
   have o1:=zCy.2.2
   refine ⟨i1,by omega,by omega,fun j hj h=>?_,fun j hj h=>?_⟩
   ·rcases List.mem_cons.1 hj with rfl|hj
    ·omega
    ·exact i4 j hj h
   ·rcases List.mem_cons.1 hj with rfl|hj
    ·omega
    ·exact i5 j hj h
  ·have e1:((zlz t k).val==1)=false:=by simp [c1]
   simp only [e1,cfl]
   by_cases c3:(zlz t k).val=3
   ·have e3:((zlz t k).val==3)=true:=by simp [c3]
    simp only [e3,ctr]
    have hv:=zrW ho zAb.1
    obtain ⟨i1,i2,i3,i4,i5⟩:=ih _ hv.1
    have o1:=zAb.2.1
    refine ⟨i1,by omega,by omega,fun j hj h=>?_,fun j hj h=>?_⟩
    ·rcases List.mem_cons.1 hj with rfl|hj
     ·omega
     ·exact i4 j hj h
    ·rcases List.mem_cons.1 hj with rfl|hj
     ·omega
     ·exact i5 j hj h
   ·have e3:((zlz t k).val==3)=false:=by simp [c3]
    simp only [e3,cfl]
    obtain ⟨i1,i2,i3,i4,i5⟩:=ih _ ho
    refine ⟨i1,by omega,by omega,fun j hj h=>?_,fun j hj h=>?_⟩
    ·rcases List.mem_cons.1 hj with rfl|hj
     ·omega
     ·exact i4 j hj h
    ·rcases List.mem_cons.1 hj with rfl|hj
     ·omega
     ·exact i5 j hj h
theorem zG1 {k a:Int} (h:fx a<=qt k):(0<=k/\a*1073741824<=k*7244019458077122843)\/(k<0/\a*1073741824<=k*7244019458077122842):=by
 have p1:=zHA
 have p2:=zHB
 by_cases hk:0<=k
 ·left;refine ⟨hk,zlh.1 ?_⟩
  have z0:=zBE hk
  rw [zc8,zc8,show zi 1073741824=rat 1073741824 from rfl,show zi 7244019458077122843=rat 7244019458077122843 from rfl]
  unfold fx qt at h
  generalize zi k=z at *;generalize zi a=u at *;generalize hp=p at *
  exact zU [u,z,p] (pn (kn 4611686018427387904 (sn h)) (kn 4611686018427387904 (mn z0 (sn p2))))
 ·right;refine ⟨by omega,zlh.1 ?_⟩
  have z0:=zlh.2 (show k<=0 by omega)
  rw [zi_0] at z0
  rw [zc8,zc8,show zi 1073741824=rat 1073741824 from rfl,show zi 7244019458077122842=rat 7244019458077122842 from rfl]
  unfold fx qt at h
  generalize zi k=z at *;generalize zi a=u at *;generalize hp=p at *
  exact zU [u,z,p] (pn (kn 4611686018427387904 (sn h)) (kn 4611686018427387904 (mn (zmh z0) (sn p1))))
theorem zIG {k b:Int} (h:qt k<=fx b):(0<=k/\k*7244019458077122842<=b*1073741824)\/(k<0/\k*7244019458077122843<=b*1073741824):=by
 have e:fx (-b)<=qt (-k):=by rw [zeR,zw7];generalize fx b=u at *;generalize qt k=v at *;exact zU [u,v] (sn h)
 have:=zG1 e
 omega
theorem In.over06 {x:Re} {a:Iv} (h:In x a) {t:I64} (ht:0<=t.val/\t.val<=3):In (sin (x+qt t.val)) (ziR a t):=by
 have hs:=zB9 (x+qt t.val)
 rw [<- zyO]
 unfold za0
 rw [zvJ,znO]
 cases hf:zcx a
 ·exact In.ring hs.1 hs.2
 simp only [Bool.not_true,cfl]
 have hfit:ze a=true/\(-1099511627776<=a.lo.val/\a.lo.val<=1099511627776)/\(-1099511627776<=a.hi.val/\a.hi.val<=1099511627776):=by
  simp only [zcx,ziv,Tr.get,zgD,zgx,za5,zev,zcO] at hf
  revert hf
  cases ze a<;>by_cases c1: -1099511627776<=a.lo.val/\a.lo.val<=1099511627776<;>by_cases c2: -1099511627776<=a.hi.val/\a.hi.val<=1099511627776<;>simp [c1,c2,ctr,cfl]
 obtain ⟨oa,⟨l1,l2⟩,⟨u1,u2⟩⟩:=hfit
 obtain ⟨h1,h2⟩:=h oa
 have ho:o0 a t=zaM (zbJ a.lo t) (zbJ a.hi t):=by unfold o0;rw [zmS,zls,zls]
 have v1:=zJr a.lo t
 have v2:=zJr a.hi t
 have hv:=zrW v1.1 v2.1
 rw [ho]
 obtain ⟨i1,i2,i3,i4,i5⟩:=zFb t (zhg a 1000 (k0 a)) _ hv.1
 have a1:=In.at (n:=a.lo) ht v1.1
 have a2:=In.at (n:=a.hi) ht v2.1
 have kb:=k_bd a
 have q0:(k0 a).val=(a.lo.val+3373259426)/6746518852-1:=by
  have qb:=zif a.lo
  unfold k0;rw [zeB,wi (by omega) (by omega),zlR ⟨l1,l2⟩]
 have q1:(k1 a).val=(a.hi.val+3373259426)/6746518852+1:=by
  have qb:=zif a.hi
  unfold k1;rw [zeB,wi (by omega) (by omega),zlR ⟨u1,u2⟩]
 have mem:∀j:Int,fx a.lo.val<=qt j->qt j<=fx a.hi.val->∃k:I64,k.val=j/\k∈zhg a 1000 (k0 a)/\(zlz t k).val=(j+t.val)%4:=fun j j1 j2=>by
  have g1:=zG1 j1
  have g2:=zIG j2
  have jb: -200<=j/\j<=200:=by omega
  have ek:(Rng.w .i64 j).val=j:=wi (by omega) (by omega)
  refine ⟨.w .i64 j,ek,?_,?_⟩
  ·obtain ⟨t1,t2,t3⟩:=In.turn (k:= .w .i64 j) (by omega) (by omega)
   rw [ek] at t2 t3
   refine zxq a _ (by omega) (zt7 t1 oa (zer.1 (le_trans t2 j2)) (zer.1 (le_trans j1 t3))) (by omega) 1000 (k0 a) (by omega) (by omega) (by omega)
  ·unfold zlz;rw [ek];exact zEa (by omega) (by omega)
 intro _
 have mv:∀ {p q:Re},p<=q->∀j:Int,p+qt t.val<=qt j->p<=qt (j-t.val):=fun {p q} _ j hj=>by
  have e:=zw8 (j-t.val) t.val
  rw [show j-t.val+t.val=j by omega] at e
  rw [e] at hj
  generalize qt (j-t.val)=u at *;generalize qt t.val=v at *
  exact zU [p,u,v] (sn hj)
 have mv':∀ {p:Re},∀j:Int,qt j<=p+qt t.val->qt (j-t.val)<=p:=fun {p} j hj=>by
  have e:=zw8 (j-t.val) t.val
  rw [show j-t.val+t.val=j by omega] at e
  rw [e] at hj
  generalize qt (j-t.val)=u at *;generalize qt t.val=v at *
  exact zU [p,u,v] (sn hj)
 constructor
 ·rcases zA6 (zgw h1 (le_refl (qt t.val))) (zgw h2 (le_refl (qt t.val))) with c|c|⟨j,j4,j1,j2⟩
  ·exact le_trans (le_trans (zer.2 (Int.le_trans i2 hv.2.1)) a1.1) c
  ·exact le_trans (le_trans (zer.2 (Int.le_trans i2 hv.2.2.1)) a2.1) c
  ·obtain ⟨k,k1',k2,k3⟩:=mem (j-t.val) (mv (le_refl (fx a.lo.val)) j j1) (mv' j j2)
   have:=i5 k k2 (by omega)
   refine le_trans ?_ hs.1
   rw [<- zBr];exact zer.2 this
 ·rcases zB5 (zgw h1 (le_refl (qt t.val))) (zgw h2 (le_refl (qt t.val))) with c|c|⟨j,j4,j1,j2⟩
  ·exact le_trans c (le_trans a1.2 (zer.2 (Int.le_trans hv.2.2.2.1 i3)))
  ·exact le_trans c (le_trans a2.2 (zer.2 (Int.le_trans hv.2.2.2.2.1 i3)))
  ·obtain ⟨k,k1',k2,k3⟩:=mem (j-t.val) (mv (le_refl (fx a.lo.val)) j j1) (mv' j j2)
   have:=i4 k k2 (by omega)
   refine le_trans hs.2 ?_
   rw [<- fx_1];exact zer.2 this
theorem In.sin {x:Re} {a:Iv} (h:In x a):In (An.sin x) (ze5 a):=by
 have:=h.over06 (t:=⟨0,rfl⟩) (by decide)
 rw [show ((⟨0,rfl⟩:I64).val)=0 from rfl,qt_0,An.add_zero] at this
 simp only [ze5,znH,Tr.get]
 exact this
theorem In.cos {x:Re} {a:Iv} (h:In x a):In (An.cos x) (zbN a):=by
 have:=h.over06 (t:=⟨1,rfl⟩) (by decide)
 rw [show ((⟨1,rfl⟩:I64).val)=1 from rfl,zB7 x (by decide)] at this
 simp only [zbN,znJ,Tr.get]
 exact this
end Go.Proofs.YtkenfaengphiiaaGreatDoor.Nc
namespace Go.Proofs.YtkenfaengphiiaaGreatDoor.Nc
open Go Go.Proofs.YtkenfaengphiiaaGreatDoor.An
open Go.Proofs.YtkenfaengphiiaaGreatDoor.Ev hiding mn zfC neg_eq zmJ sub_eq
theorem zka {x y:I64} (hy:y.val<0) (h:(zM x y).b=true):(zM x y).a.val= -x.val*4294967296 / -y.val:=by
 have z0:(y.val==0)=false:=by simp;omega
 have z1:decide (y.val<0)=true:=by simpa using hy
 simp only [zM,zbF,Tr.get,zd9,z0,z1,ctr,cfl] at h ⊢
 cases h1:zG x
 ·rw [h1] at h;simp [ctr] at h
 cases h2:zG y
 ·rw [h1,h2] at h;simp [ctr,cfl] at h
 have bx:=zno h1
 have by':=zno h2
 have ex:(Rng.w .i64 (0-x.val)).val= -x.val:=by rw [wi (by omega) (by omega)];omega
 have ey:(Rng.w .i64 (0-y.val)).val= -y.val:=by rw [wi (by omega) (by omega)];omega
 rw [h1,h2] at h
 have hp:0 < -y.val:=by omega
 simp only [Bool.not_true,cfl,MD,ex,ey,hp,if_true] at h ⊢
 unfold narrow at h ⊢
 split at h
 ·rename_i hr
  rw [if_pos hr]
  rcases zi5 (.w .i64 (-x.val*4294967296 / -y.val)) true with e|⟨e,_⟩
  ·rw [e] at h;cases h
  ·rw [e];exact wi hr.1 hr.2
 ·have:(zaB (.w .i64 0) false).b=false:=by simp only [zaB,zcy,Tr.get,Bool.not_false,ctr]
  rw [this] at h;cases h
theorem zoG {x y:I64} (hy:y.val<0) (h:(zY x y).b=true):(zY x y).a.val= -(x.val*4294967296 / -y.val):=by
 simp only [zY,zdJ,Tr.get] at h ⊢
 cases h1:zG x
 ·rw [h1] at h;simp [ctr] at h
 rw [h1] at h
 simp only [Bool.not_true,cfl] at h ⊢
 have hb:=zno h1
 have e:=zka hy h
 have en:(Rng.w .i64 (0-x.val)).val= -x.val:=by rw [wi (by omega) (by omega)];omega
 rw [en,Int.neg_neg] at e
 rcases ze4 (.w .i64 (0-x.val)) y with k|⟨c,k,kc⟩
 ·rw [k] at h;cases h
 ·have kb:=zno kc
  rw [k] at e ⊢
  simp only at e ⊢
  rw [wi (by omega) (by omega)]
  omega
theorem zr8 {a b:Iv} (h0:b.hi.val<0) (h:ze (zO a b)=true):ze a=true/\ze b=true /\
  ∀x y:I64,(x=a.lo\/x=a.hi)->(y=b.lo\/y=b.hi)->(zO a b).lo.val <= -x.val*4294967296 / -y.val /\ -(x.val*4294967296 / -y.val)<=(zO a b).hi.val:=by
 have nw:∀ {P:Prop},ze zt=true->P:=fun h=>by rw [zch] at h;cases h
 simp only [zO,zie,Tr.get] at h ⊢
 cases ha:ze a
 ·rw [ha] at h;exact nw h
 cases hb:ze b
 ·rw [ha,hb] at h;exact nw h
 have bb:=(zbC _).1 hb
 have h0':b.lo.val<0:=by omega
 cases hz:zbr b ⟨0,rfl⟩
 case true=>rw [ha,hb,hz] at h;exact nw h
 simp only [ha,hb,hz,Bool.not_true,cfl] at h ⊢
 cases h1:(zM a.lo b.lo).b
 ·rw [h1] at h;exact nw h
 cases h2:(zY a.lo b.lo).b
 ·rw [h1,h2] at h;exact nw h
 cases h3:(zM a.lo b.hi).b
 ·rw [h1,h2,h3] at h;exact nw h
 cases h4:(zY a.lo b.hi).b
 ·rw [h1,h2,h3,h4] at h;exact nw h
 cases h5:(zM a.hi b.lo).b
 ·rw [h1,h2,h3,h4,h5] at h;exact nw h
 cases h6:(zY a.hi b.lo).b
 ·rw [h1,h2,h3,h4,h5,h6] at h;exact nw h
 cases h7:(zM a.hi b.hi).b
 ·rw [h1,h2,h3,h4,h5,h6,h7] at h;exact nw h
 cases h8:(zY a.hi b.hi).b
 ·rw [h1,h2,h3,h4,h5,h6,h7,h8] at h;exact nw h
 simp only [h1,h2,h3,h4,h5,h6,h7,h8,Bool.not_true,cfl] at h ⊢
 refine ⟨trivial,trivial,?_⟩
 have v1:=zka h0' h1
 have v2:=zoG h0' h2
 have v3:=zka h0 h3
 have v4:=zoG h0 h4
 have v5:=zka h0' h5
 have v6:=zoG h0' h6
 have v7:=zka h0 h7
 have v8:=zoG h0 h8
 generalize (zM a.lo b.lo).a=d1 at *
 generalize (zM a.lo b.hi).a=d2 at *
 generalize (zM a.hi b.lo).a=d3 at *
 generalize (zM a.hi b.hi).a=d4 at *
 generalize (zY a.lo b.lo).a=u1 at *
 generalize (zY a.lo b.hi).a=u2 at *
 generalize (zY a.hi b.lo).a=u3 at *
 generalize (zY a.hi b.hi).a=u4 at *
 have m1:=zia ⟨1152921504606846976,rfl⟩ d1
 have m2:=zia (zC ⟨1152921504606846976,rfl⟩ d1) d2
 have m3:=zia (zC (zC ⟨1152921504606846976,rfl⟩ d1) d2) d3
 have m4:=zia (zC (zC (zC ⟨1152921504606846976,rfl⟩ d1) d2) d3) d4
 have n1:=zgM ⟨-1152921504606846976,rfl⟩ u1
 have n2:=zgM (zA ⟨-1152921504606846976,rfl⟩ u1) u2
 have n3:=zgM (zA (zA ⟨-1152921504606846976,rfl⟩ u1) u2) u3
 have n4:=zgM (zA (zA (zA ⟨-1152921504606846976,rfl⟩ u1) u2) u3) u4
 generalize zC (zC (zC (zC ⟨1152921504606846976,rfl⟩ d1) d2) d3) d4=lo at *
 generalize zA (zA (zA (zA ⟨-1152921504606846976,rfl⟩ u1) u2) u3) u4=hi at *
 by_cases hm: -1152921504606846976<lo.val/\lo.val<=hi.val/\hi.val<1152921504606846976
 ·rw [zb3 hm]
  simp only
  rintro x y (rfl|rfl) (rfl|rfl)
  ·omega
  ·omega
  ·omega
  ·omega
 ·rw [zii hm] at h;exact nw h
theorem zFu {a b:Iv} (h:ze (zO a b)=true):0<b.lo.val\/b.hi.val<0:=by
 have nw:∀ {P:Prop},ze zt=true->P:=fun h=>by rw [zch] at h;cases h
 simp only [zO,zie,Tr.get] at h
 cases ha:ze a
 ·rw [ha] at h;exact nw h
 cases hb:ze b
 ·rw [ha,hb] at h;exact nw h
 have ob:=(zbC _).1 hb
 have hz:zbr b ⟨0,rfl⟩=decide (b.lo.val<=0/\0<=b.hi.val):=by simp only [zbr,zeZ,Tr.get,zcO]
 by_cases hd:b.lo.val<=0/\0<=b.hi.val
 ·rw [ha,hb,hz,decide_eq_true hd] at h;exact nw h
 ·omega
theorem In.div {x y:Re} {a b:Iv} (h:In x a) (k:In y b):In (x/y) (zO a b):=fun ok=>by
 rcases zFu ok with h0|h0
 ·exact h.div_pos k h0 ok
 obtain ⟨o1,o2,hc⟩:=zr8 h0 ok
 obtain ⟨h1,h2⟩:=h o1
 obtain ⟨k1,k2⟩:=k o2
 have b':=(zbC _).1 o2
 have y0:=lt_of_le_of_lt k2 (zHE h0)
 have n1: -x<=fx (-a.lo.val):=by rw [zeR];generalize fx a.lo.val=u at *;exact zU [x,u] (sn h1)
 have n2:fx (-a.hi.val) <= -x:=by rw [zeR];generalize fx a.hi.val=u at *;exact zU [x,u] (sn h2)
 have m1: -y<=fx (-b.lo.val):=by rw [zeR];generalize fx b.lo.val=u at *;exact zU [y,u] (sn k1)
 have m2:fx (-b.hi.val) <= -y:=by rw [zeR];generalize fx b.hi.val=u at *;exact zU [y,u] (sn k2)
 have i1:=zAo (zIO y0) m1
 have i2:=zAo (fx_p (show 0 < -b.hi.val by omega)) m2
 have p0:∀v:I64,(v=b.lo\/v=b.hi)->0 < -v.val:=by rintro v (rfl|rfl)<;>omega
 have lo:∀u v:I64,(u=a.lo\/u=a.hi)->(v=b.lo\/v=b.hi)->fx (zO a b).lo.val<=fx (-u.val)*(fx (-v.val))⁻¹:=fun u v hu hv=>le_trans (zer.2 (hc u v hu hv).1) (zrY (p0 v hv))
 have hi:∀u v:I64,(u=a.lo\/u=a.hi)->(v=b.lo\/v=b.hi)->fx (-u.val)*(fx (-v.val))⁻¹<=fx (zO a b).hi.val:=fun u v hu hv=>by
  have:=zxy (x:= -u.val) (p0 v hv)
  rw [Int.neg_neg] at this
  exact le_trans this (zer.2 (hc u v hu hv).2)
 rw [<- zHU x y (ne_of_lt y0)]
 exact ⟨zu7 n2 n1 i1 i2 (lo _ _ (.inr rfl) (.inl rfl)) (lo _ _ (.inr rfl) (.inr rfl)) (lo _ _ (.inl rfl) (.inl rfl)) (lo _ _ (.inl rfl) (.inr rfl)),
  zyu n2 n1 i1 i2 (hi _ _ (.inr rfl) (.inl rfl)) (hi _ _ (.inr rfl) (.inr rfl)) (hi _ _ (.inl rfl) (.inl rfl)) (hi _ _ (.inl rfl) (.inr rfl))⟩
theorem zz9 {v:Int} (h:(narrow v).b=true):(narrow v).a.val=v /\ -9223372036854775808<=v/\v<=9223372036854775807:=by
 unfold narrow at h ⊢
 split at h
 ·rename_i hr;rw [if_pos hr];exact ⟨wi hr.1 hr.2,hr⟩
 ·cases h
theorem zGY {a b:Int} (hb:0<b):fx (a*4294967296/b)<=zi a/zi b:=by
 have zb:0<zi b:=by rw [<- zi_0];exact zwa.2 hb
 rw [zrR zb]
 have:=zjF (p:=a*4294967296) hb
 unfold fx
 rw [zc8 a] at this
 generalize zi (a*4294967296/b)=q at *;generalize zi a=u at *;generalize zi b=v at *
 rw [show zi 4294967296=rat 4294967296 from rfl] at this
 exact zU [q,u,v] (kn (1/4294967296) (sn this))
theorem zGZ {a b:Int} (hb:0<b):zi a/zi b<=fx (a*4294967296/b+1):=by
 have zb:0<zi b:=by rw [<- zi_0];exact zwa.2 hb
 rw [zuq zb]
 have h1:a*4294967296<=(a*4294967296/b+1)*b:=by have:=Int.lt_ediv_add_one_mul_self (a*4294967296) hb;omega
 have:=zlh.2 h1
 unfold fx
 rw [zc8 a,zc8 _ b] at this
 generalize zi (a*4294967296/b+1)=q at *;generalize zi a=u at *;generalize zi b=v at *
 rw [show zi 4294967296=rat 4294967296 from rfl] at this
 exact zU [q,u,v] (kn (1/4294967296) (sn this))
theorem zG0 {a b:Int} (hb:0<b) (h:a*4294967296%b=0):zi a/zi b<=fx (a*4294967296/b):=by
 have zb:0<zi b:=by rw [<- zi_0];exact zwa.2 hb
 rw [zuq zb]
 have h1:a*4294967296<=(a*4294967296/b)*b:=by
  have:=Int.mul_ediv_add_emod (a*4294967296) b
  rw [h,Int.mul_comm] at this;omega
 have:=zlh.2 h1
 unfold fx
 rw [zc8 a,zc8 _ b] at this
 generalize zi (a*4294967296/b)=q at *;generalize zi a=u at *;generalize zi b=v at *
 rw [show zi 4294967296=rat 4294967296 from rfl] at this
 exact zU [q,u,v] (kn (1/4294967296) (sn this))
theorem zHM {a:I64} {c:Bool} (h:(zaB a c).b=true):c=true/\zaB a c=⟨a,true⟩/\zG a=true:=by
 rcases zi5 a c with e|⟨e,k⟩
 ·rw [e] at h;cases h
 ·refine ⟨?_,e,k⟩
  cases c
  ·rw [zum] at e;cases e
  ·rfl
theorem In.quotient {a b:I64} (hb:0<b.val):In (zi a.val/zi b.val) (zK a b):=by
 rw [zzV]
 have hn:¬b.val<0:=by omega
 unfold QQ
 rw [if_neg hn]
 unfold QU
 cases h1:(FF a b).b
 ·exact In.whole _
 cases h2:(FC a b).b
 ·exact In.whole _
 simp only [cond_true]
 have f1:fx (FF a b).a.val<=zi a.val/zi b.val:=by
  unfold FF at h1 ⊢
  obtain ⟨e1,e2,e3⟩:=zHM h1
  rw [e2]
  simp only [MD,hb,if_true] at e1 ⊢
  have:=zz9 e1
  rw [this.1]
  exact zGY hb
 have f2:zi a.val/zi b.val<=fx (FC a b).a.val:=by
  unfold FC at h2 ⊢
  simp only [hb,if_true] at h2 ⊢
  cases hq:(narrow (a.val*4294967296/b.val)).b
  ·rw [hq] at h2;simp at h2
  have nb:=zz9 hq
  simp only [hq,if_true] at h2 ⊢
  by_cases hz:a.val*4294967296%b.val=0
  ·simp only [hz,if_true] at h2 ⊢
   obtain ⟨e1,e2,e3⟩:=zHM h2
   rw [e2,nb.1]
   exact zG0 hb hz
  ·simp only [hz,if_false] at h2 ⊢
   obtain ⟨e1,e2,e3⟩:=zHM h2
   rw [e2]
   have ob:=zno e3
   rw [nb.1] at ob ⊢
   by_cases hx:a.val*4294967296/b.val=9223372036854775807
   ·rw [hx] at ob;exact absurd ob (by decide)
   ·rw [wi (by omega) (by omega)]
    exact zGZ hb
 intro ok
 by_cases hm: -1152921504606846976<(FF a b).a.val/\(FF a b).a.val<=(FC a b).a.val/\(FC a b).a.val<1152921504606846976
 ·rw [zb3 hm];exact ⟨f1,f2⟩
 ·rw [zii hm,zch] at ok;cases ok
theorem In.quot {n:I64} (q:Nat) (r:Rat) (hn:n.val=((q+1:Nat):Int):=by kernel_rfl) (hr:1/((q+1:Nat):Rat)=r:=by kernel_rfl):In (rat r) (zK ⟨1,rfl⟩ n):=by
 have:=In.quotient (a:=⟨1,rfl⟩) (b:=n) (by omega)
 rw [hn,zzB,show zi ((⟨1,rfl⟩:I64)).val=1 from rfl] at this
 have e:(1:Re)/rat ((q+1:Nat):Rat)=rat r:=by
  rw [<- hr]
  have i:=zvD q
  have p:0<rat ((q+1:Nat):Rat):=zCF (Nat.succ_pos q)
  refine zgN (ne_of_gt p) ?_
  rw [div_mul (ne_of_gt p),An.mul_comm,i]
 rwa [e] at this
theorem In.halve {x:Re} {a:Iv} (h:In x a):In (x/(1+An.sqrt (1+x*x))) (zeH a):=by
 simp only [zeH,zjO,Tr.get]
 exact h.div (In.add In.one (In.sqrt (In.add In.one h.sqr)))
theorem In.arcS {x:Re} {a:Iv} (h:In x a):In (atan x) (zfj a):=by
 simp only [zfj,zjg,Tr.get,zdi]
 cases hi:za7 a ⟨⟨(-1073741824),rfl⟩,⟨1073741824,rfl⟩⟩
 ·exact In.whole _
 simp only [Bool.not_true,cfl]
 have hin:ze a=true /\ -1073741824<=a.lo.val/\a.hi.val<=1073741824:=by
  have h2:ze ⟨⟨-1073741824,rfl⟩,⟨1073741824,rfl⟩⟩=true:=(zbC _).2 (by decide)
  simp only [za7,zgI,Tr.get,h2,Bool.not_true,cfl] at hi
  revert hi
  cases ze a<;>by_cases h1: -1073741824<=a.lo.val<;>simp [h1,ctr,cfl]
 obtain ⟨o,k1,k2⟩:=hin
 have hx:An.abs x<=rat (1/4):=by
  obtain ⟨h1,h2⟩:=h o
  have l1:=zer.2 k1
  have l2:=zer.2 k2
  have e:fx 1073741824=rat (1/4):=(show rat ((1073741824:Int):Rat)*rat (1/4294967296)=rat (1/4) from An.ring [])
  rw [zeR,e] at l1
  rw [e] at l2
  exact zeT (le_trans l1 h1) (le_trans h2 l2)
 have e:=zzn hx
 have:=(h.mul (In.sub (In.quot (n:=⟨1,rfl⟩) 0 (1/1)) (In.mul h.sqr (In.sub (In.quot (n:=⟨3,rfl⟩) 2 (1/3)) (In.mul h.sqr (In.sub (In.quot (n:=⟨5,rfl⟩) 4 (1/5)) (In.mul h.sqr (In.sub (In.quot (n:=⟨7,rfl⟩) 6 (1/7)) (In.mul h.sqr (In.sub (In.quot (n:=⟨9,rfl⟩) 8 (1/9)) (In.mul h.sqr (In.sub (In.quot (n:=⟨11,rfl⟩) 10 (1/11)) (In.mul h.sqr (In.sub (In.quot (n:=⟨13,rfl⟩) 12 (1/13)) (In.mul h.sqr (In.sub (In.quot (n:=⟨15,rfl⟩) 14 (1/15)) (In.mul h.sqr (In.sub (In.quot (n:=⟨17,rfl⟩) 16 (1/17)) (In.mul h.sqr (In.sub (In.quot (n:=⟨19,rfl⟩) 18 (1/19)) (In.mul h.sqr (In.quot (n:=⟨21,rfl⟩) 20 (1/21))))))))))))))))))))))).add (In.tiny e)
 generalize x*(rat (1/1)-x*x*(rat (1/3)-x*x*(rat (1/5)-x*x*(rat (1/7)-x*x*(rat (1/9)-x*x*(rat (1/11)-x*x*(rat (1/13)-x*x*(rat (1/15)-x*x*(rat (1/17)-x*x*(rat (1/19)-x*x*rat (1/21)))))))))))=u at *;generalize atan x=s at *
 rwa [show u+(s-u)=s from An.ring [u,s]] at this
theorem In.core {x:Re} {a:Iv} (h:In x a):In (atan x) (zcT a):=by
 simp only [zcT,zkZ,Tr.get]
 have:=h.halve.halve.arcS.dbl.dbl
 rwa [<- zxN,<- zxN] at this
theorem zFG {x:Re} (h:0<x):atan x=hp-atan (1/x):=by
 have c:=zjI (1/x)
 have hq:0<1/x:=zBv (qp 1) h
 have p0:0<atan (1/x):=by
  have h2:=zgO (le_of_lt hq)
  rw [zxM] at h2
  rcases le_iff.1 h2 with h3|h3
  ·exact h3
  ·have:=zkc (1/x)
   rw [<- h3,zkN,zjG,An.mul_one] at this
   exact absurd (this▸hq) (lt_irrefl _)
 have p1:=znU (1/x)
 refine (zhh ?_ ?_ ?_).symm
 ·generalize atan (1/x)=a at *;exact zfU [a,hp] (ppn (sp p1) (le_of_lt hp_p))
 ·generalize atan (1/x)=a at *;exact zfU [a,hp] p0
 ·rw [zt0,zng,zkc]
  have e:=div_mul (x:=1) (ne_of_gt h)
  generalize cos (atan (1/x))=d at *;generalize 1/x=q at *
  exact zj9 [x,q,d] (congrArg (fun t=> -(d*t)) e: -(d*(q*x))= -(d*1))
theorem zp0:zbh.lo.val= -6746518853/\zbh.hi.val=6746518853/\ze zbh=true:=by
 have e:zbh=⟨⟨-6746518853,rfl⟩,⟨6746518853,rfl⟩⟩:=by kernel_rfl
 rw [e];exact ⟨rfl,rfl,(zbC _).2 (by decide)⟩
theorem zLe:hp<=fx 6746518853:=by
 have:=(zq7 (k:=1) (by decide) (by decide)).2
 rw [qt_1] at this
 exact this
theorem In.quarter {x:Re} (h1: -hp<=x) (h2:x<=hp):In x zbh:=fun _=>by
 rw [zp0.1,zp0.2.1,zeR]
 have:=zLe
 generalize fx 6746518853=u at *
 exact ⟨zU [x,u,hp] (pn (sn this) (sn h1)),le_trans h2 this⟩
theorem zpD (x:Re): -hp<=atan x/\atan x<=hp:=⟨le_of_lt (zsd x),le_of_lt (znU x)⟩
theorem In.atan_pos {n:I64} (h:0<=n.val):In (atan (fx n.val)) (zdn n)/\In (atan (fx n.val)) (zdO n)/\zfX n=true:=by
 have hn:decide (n.val<0)=false:=by simp;omega
 have q:=In.quarter (zpD (fx n.val)).1 (zpD (fx n.val)).2
 simp only [zdn,zhF,zdO,zfM,zfX,Tr.get,Tr.opt,hn,cfl]
 cases zdm n
 ·exact ⟨q,q,rfl⟩
 simp only [Bool.not_true,cfl]
 by_cases hg:n.val>4294967296
 ·simp only [hg,decide_true,ctr]
  have:In (atan (fx n.val)) (zac (za3 ⟨1,rfl⟩) (zcT (zO (zy ⟨1,rfl⟩) (zbq n)))):=by
   rw [zFG (fx_p (show 0<n.val by omega))]
   have t:=In.turn' (k:=⟨1,rfl⟩) (by decide) (by decide)
   rw [show ((⟨1,rfl⟩:I64)).val=1 from rfl,qt_1] at t
   exact t.sub (In.one.div In.point).core
  exact ⟨this,this,rfl⟩
 ·simp only [hg,decide_false,cfl]
  exact ⟨In.point.core,In.point.core,rfl⟩
theorem In.atanAt {n:I64}:In (atan (fx n.val)) (zdn n):=by
 by_cases h:0<=n.val
 ·exact (In.atan_pos h).1
 have hn:decide (n.val<0)=true:=by simp;omega
 have q:=In.quarter (zpD (fx n.val)).1 (zpD (fx n.val)).2
 simp only [zdn,zhF,Tr.get,hn,ctr]
 cases hf:zdm n
 ·exact q
 have hb:=(zDh n).1 hf
 have en:(Rng.w .i64 (0-n.val)).val= -n.val:=by rw [wi (by omega) (by omega)];omega
 obtain ⟨_,h2,h3⟩:=In.atan_pos (n:= .w .i64 (0-n.val)) (by rw [en];omega)
 rw [en,zeR,zqP] at h2
 simp only [Bool.not_true,cfl,h3,ctr]
 have:=h2.neg
 rwa [show - - atan (fx n.val)=atan (fx n.val) from by generalize atan (fx n.val)=u;exact An.ring [u]] at this
theorem In.atan {x:Re} {a:Iv} (h:In x a):In (An.atan x) (zeV a):=by
 rw [zuv,zFV]
 cases ha:ze a
 ·exact In.quarter (zpD x).1 (zpD x).2
 simp only [Bool.not_true,cfl]
 obtain ⟨h1,h2⟩:=h ha
 exact In.between (In.atanAt.hull_l) (In.atanAt.hull_r) (zgO h1) (zgO h2)
end Go.Proofs.YtkenfaengphiiaaGreatDoor.Nc
namespace Go.Proofs.YtkenfaengphiiaaGreatDoor.Nc
open Go Go.Proofs.YtkenfaengphiiaaGreatDoor.An
open Go.Proofs.YtkenfaengphiiaaGreatDoor.Ev hiding mn zfC neg_eq zmJ sub_eq
structure Rv where
 x:Re
 y:Re
 z:Re
end Go.Proofs.YtkenfaengphiiaaGreatDoor.Nc
namespace Go.Proofs.YtkenfaengphiiaaGreatDoor.Nc
open Go Go.Proofs.YtkenfaengphiiaaGreatDoor.An
open Go.Proofs.YtkenfaengphiiaaGreatDoor.Ev hiding mn zfC neg_eq zmJ sub_eq
theorem In.overlap {x:Re} {a b:Iv} (h:In x a) (k:In x b):zo a b=true:=by
 simp only [zo,zdL,za4,zdp,Tr.get]
 cases ha:ze a
 ·cases hb:ze b<;>rfl
 cases hb:ze b
 ·rfl
 obtain ⟨h1,h2⟩:=h ha
 obtain ⟨k1,k2⟩:=k hb
 have l1:=zer.1 (le_trans h1 k2)
 have l2:=zer.1 (le_trans k1 h2)
 have b1:=(zbC _).1 ha
 have b2:=(zbC _).1 hb
 have m1:=zgM a.lo b.lo
 have m2:=zia a.hi b.hi
 have n:¬(zA a.lo b.lo).val>(zC a.hi b.hi).val:=by omega
 simp only [Bool.not_true,cfl,n,decide_false]
end Go.Proofs.YtkenfaengphiiaaGreatDoor.Nc
namespace Go.Proofs.YtkenfaengphiiaaGreatDoor.Nc
open Go Go.Proofs.YtkenfaengphiiaaGreatDoor.An
open Go.Proofs.YtkenfaengphiiaaGreatDoor.Ev hiding mn zfC neg_eq zmJ sub_eq
theorem zlm {p:zbk}:zay p=true↔(-900000000<=p.lat.val/\p.lat.val<=900000000)/\(-1799999999<=p.lon.val/\p.lon.val<=1800000000):=by
 simp only [zay,ziV,Tr.get,zcO]
 by_cases h: -900000000<=p.lat.val/\p.lat.val<=900000000
 ·simp [h]
 ·simp only [h,decide_false,cfl,false_and,Bool.false_eq_true]
end Go.Proofs.YtkenfaengphiiaaGreatDoor.Nc
namespace Go.Proofs.YtkenfaengphiiaaGreatDoor.Nc
open Go Go.Proofs.YtkenfaengphiiaaGreatDoor.An
open Go.Proofs.YtkenfaengphiiaaGreatDoor.Ev hiding mn zfC neg_eq zmJ sub_eq
def ea (e:Ell):Re:=zi e.a.val/zi 1000
def ef (e:Ell):Re:=zi e.num.val/zi e.den.val
def ee (e:Ell):Re:=ef e*(zi 2-ef e)
def ew (e:Ell) (t:Re):Re:=1-ee e*(An.sin t*An.sin t)
def en (e:Ell) (t:Re):Re:=ea e/An.sqrt (ew e t)
def ph (p:Ev.Place):Re:=zi p.h.val/zi 1000
def cr (e:Ell) (p:Ev.Place):Re:=(en e (Nc.rad p.pt.lat.val)+ph p)*An.cos (Nc.rad p.pt.lat.val)
def cz (e:Ell) (p:Ev.Place):Re:=(en e (Nc.rad p.pt.lat.val)*(1-ee e)+ph p)*An.sin (Nc.rad p.pt.lat.val)
def cv (e:Ell) (p:Ev.Place):Rv:=⟨cr e p*An.cos (Nc.rad p.pt.lon.val),cr e p*An.sin (Nc.rad p.pt.lon.val),cz e p⟩
theorem In.sinAt {n:I64}:In (An.sin (fx n.val)) (zhr n):=by
 simp only [zhr,zmE,Tr.get]
 have:=In.at (n:=n) (t:=⟨0,rfl⟩) (by decide)
 rwa [show qt (⟨0,rfl⟩:I64).val=0 from qt_0,An.add_zero] at this
theorem In.cosAt {n:I64}:In (An.cos (fx n.val)) (zhs n):=by
 simp only [zhs,zmG,Tr.get]
 have:=In.at (n:=n) (t:=⟨1,rfl⟩) (by decide)
 rwa [show qt (⟨1,rfl⟩:I64).val=hp from qt_1,zt1] at this
end Go.Proofs.YtkenfaengphiiaaGreatDoor.Nc
namespace Go.Proofs.YtkenfaengphiiaaGreatDoor.Nc
open Go Go.Proofs.YtkenfaengphiiaaGreatDoor.An
open Go.Proofs.YtkenfaengphiiaaGreatDoor.Ev hiding mn zfC neg_eq zmJ sub_eq
theorem zBc:Nc.rad 900000000=hp:=by
 show rat ((900000000:Int):Rat)*(hp*rat (1/900000000))=hp
 rw [show ((900000000:Int):Rat)=900000000 from rfl];exact An.ring [hp]
theorem zzT {a b:Int} (h:a<=b):Nc.rad a<=Nc.rad b:=by
 unfold Nc.rad
 have k:=zlh.2 h
 have p:=hp_p
 generalize zi a=x at *;generalize zi b=y at *
 exact zU [x,y,hp] (An.mn (sn k) (kn (1/900000000) (le_of_lt p)))
theorem zIZ {p:zbk} (h:zay p=true): -hp<=Nc.rad p.lat.val/\Nc.rad p.lat.val<=hp:=by
 obtain ⟨⟨a,b⟩,_⟩:=zlm.1 h
 have h1:=zzT a
 have h2:=zzT b
 rw [zBc] at h2
 rw [zpb,zBc] at h1
 exact ⟨h1,h2⟩
theorem zGg:fx 1=rat (1/4294967296):=one_mul _
theorem In.make {x:Re} {a b:I64} (h:fx a.val<=x/\x<=fx b.val):In x (zab a b):=fun ok=>by
 by_cases k: -1152921504606846976<a.val/\a.val<=b.val/\b.val<1152921504606846976
 ·rw [zb3 k];exact h
 ·rw [zii k] at ok;exact absurd ok (by rw [zch];decide)
theorem In.zzb {x:Re} {a b:Iv} (h1:ze a=true->ze b=true->fx a.lo.val<=x/\x<=fx b.hi.val):In x (zds a b):=by
 rw [<- Ev.zzb]
 cases ha:ze a
 ·exact In.whole x
 ·cases hb:ze b
  ·exact In.whole x
  ·exact In.make (h1 ha hb)
theorem In.hlf {x:Re} {a:Iv} (h:In x a):In (x*rat (1/2)) (zi8 a):=by
 simp only [zi8,zmF,Tr.get]
 cases ha:ze a
 ·exact In.whole _
 ·simp only [Bool.not_true,cfl]
  have b:=(zbC a).1 ha
  obtain ⟨h1,h2⟩:=h ha
  have f1:a.lo.val.fdiv 2=a.lo.val/2:=Int.fdiv_eq_ediv_of_nonneg _ (by decide)
  have e1:(Rng.w .i64 (a.hi.val+1)).val=a.hi.val+1:=wi (by omega) (by omega)
  refine In.make ?_
  rw [e1]
  have f2:(a.hi.val+1).fdiv 2=(a.hi.val+1)/2:=Int.fdiv_eq_ediv_of_nonneg _ (by decide)
  rw [f1,f2,wi (n:=a.lo.val/2) (by omega) (by omega),wi (n:=(a.hi.val+1)/2) (by omega) (by omega)]
  have g1:fx (2*(a.lo.val/2))<=fx a.lo.val:=zer.2 (by omega)
  have g2:fx a.hi.val<=fx (2*((a.hi.val+1)/2)):=zer.2 (by omega)
  rw [show 2*(a.lo.val/2)=a.lo.val/2+a.lo.val/2 by omega,zp5] at g1
  rw [show 2*((a.hi.val+1)/2)=(a.hi.val+1)/2+(a.hi.val+1)/2 by omega,zp5] at g2
  generalize fx (a.lo.val/2)=p at *;generalize fx ((a.hi.val+1)/2)=q at *
  have k1:=le_trans g1 h1
  have k2:=le_trans h2 g2
  exact ⟨zU [p,x] (kn (1/2) (sn k1)),zU [q,x] (kn (1/2) (sn k2))⟩
theorem In.meetI {x:Re} {a b:Iv} (h:In x a) (k:In x b):In x (za4 a b).a/\(za4 a b).b=true:=by
 simp only [za4,zdp,Tr.get]
 cases ha:ze a
 ·cases hb:ze b
  ·simp only [Bool.not_false,Bool.and_self,Bool.and_true,Bool.true_and,ctr];exact ⟨In.whole x,trivial⟩
  ·simp only [Bool.not_false,Bool.not_true,Bool.and_false,cfl,ctr];exact ⟨k,trivial⟩
 ·cases hb:ze b
  ·simp only [Bool.not_false,Bool.not_true,Bool.false_and,cfl,ctr];exact ⟨h,trivial⟩
  ·obtain ⟨h1,h2⟩:=h ha
   obtain ⟨k1,k2⟩:=k hb
   have m1:=zgM a.lo b.lo
   have m2:=zia a.hi b.hi
   have l1:fx (zA a.lo b.lo).val<=x:=by
    rcases Int.le_total a.lo.val b.lo.val with c|c
    ·rw [show (zA a.lo b.lo).val=b.lo.val by omega];exact k1
    ·rw [show (zA a.lo b.lo).val=a.lo.val by omega];exact h1
   have l2:x<=fx (zC a.hi b.hi).val:=by
    rcases Int.le_total a.hi.val b.hi.val with c|c
    ·rw [show (zC a.hi b.hi).val=a.hi.val by omega];exact h2
    ·rw [show (zC a.hi b.hi).val=b.hi.val by omega];exact k2
   have hlt:¬(zA a.lo b.lo).val>(zC a.hi b.hi).val:=by
    have:=zer.1 (le_trans l1 l2);omega
   simp only [hlt,decide_false,Bool.not_true,Bool.and_self,Bool.false_and,cfl]
   exact ⟨fun _=>⟨l1,l2⟩,trivial⟩
theorem In.widen {x y:Re} {a:Iv} (h:In x a) (k:An.abs (y-x)<=rat (1/4294967296)):In y (zaT a ⟨1,rfl⟩):=by
 simp only [zaT,zhC,Tr.get]
 cases ha:ze a
 ·exact In.whole y
 ·simp only [Bool.not_true,cfl]
  obtain ⟨h1,h2⟩:=h ha
  obtain ⟨k1,k2⟩:=zdT k
  have b:=(zbC _).1 ha
  refine In.make ?_
  rw [wi (n:=a.lo.val-1) (by omega) (by omega),wi (n:=a.hi.val+1) (by omega) (by omega),zAs,zp5,zGg]
  generalize fx a.lo.val=p at *;generalize fx a.hi.val=q at *;generalize rat (1/4294967296)=r at *
  exact ⟨zU [x,y,p,r] (pn (sn h1) (sn k1)),zU [x,y,q,r] (pn (sn h2) (sn k2))⟩
theorem zC1 {k:Int} (h:0<=k):fx (k*1598288580650331957/536870912)<=zi k*log 2/\zi k*log 2<=fx (0-(0-k)*1598288580650331958/536870912):=by
 have a:=zjF (p:=k*1598288580650331957) (d:=536870912) (by decide)
 have b:=zjF (p:=(0-k)*1598288580650331958) (d:=536870912) (by decide)
 have k0:=zBE h
 rw [show (0:Int)-(0-k)*1598288580650331958/536870912= -((0-k)*1598288580650331958/536870912) by omega,zeR]
 unfold fx
 rw [zc8] at a b
 rw [show zi (0-k)= - zi k from by rw [ztT,zi_0];exact An.ring [zi k]] at b
 generalize zi (k*1598288580650331957/536870912)=u at *
 generalize zi ((0-k)*1598288580650331958/536870912)=v at *
 generalize zi k=K at *
 have a':u*rat 536870912<=K*rat 1598288580650331957:=a
 have b':v*rat 536870912 <= -K*rat 1598288580650331958:=b
 have l1:=zC2
 have l2:=zyY
 generalize log 2=L at *
 constructor
 ·exact zU [u,K,L] (pn (kn (1/536870912/4294967296) (sn a')) (mn k0 (sn l1)))
 ·exact zU [v,K,L] (pn (kn (1/536870912/4294967296) (sn b')) (mn k0 (sn l2)))
theorem zGd {k:I64} (h:0<=k.val) (h':k.val<=64):∃x:Iv,(zbD k).opt=some x/\In (zi k.val*log 2) x:=by
 have hi:zX k ⟨(-64),rfl⟩ ⟨64,rfl⟩=true:=by rw [zcO];simp;omega
 have hn:decide (k.val<0)=false:=by simp;omega
 obtain ⟨e1,e2,b1,b2,b3⟩:=zCW h h'
 have v1:(Rng.w .i64 (k.val*1598288580650331957/536870912)).val=k.val*1598288580650331957/536870912:=wi (by omega) (by omega)
 have v2:(Rng.w .i64 ((0-k.val)*1598288580650331958/536870912)).val=(0-k.val)*1598288580650331958/536870912:=wi (by omega) (by omega)
 have v3:(Rng.w .i64 (0-(0-k.val)*1598288580650331958/536870912)).val=0-(0-k.val)*1598288580650331958/536870912:=wi (by omega) (by omega)
 refine ⟨zab (.w .i64 (k.val*1598288580650331957/536870912)) (.w .i64 (0-(Rng.w .i64 ((0-k.val)*1598288580650331958/536870912)).val)),?_,In.make ?_⟩
 ·simp only [zbD,Tr.opt,hi,hn,Bool.not_true,cond_false,e1,e2]
 ·rw [v2,v1,v3];exact zC1 h
theorem In.log2 {k:I64} (h: -64<=k.val) (h':k.val<=64):In (zi k.val*log 2) (zar k):=by
 have hi:zX k ⟨(-64),rfl⟩ ⟨64,rfl⟩=true:=by rw [zcO];simp;omega
 by_cases hn:k.val<0
 ·have e1:(Rng.w .i64 (0-k.val)).val=0-k.val:=wi (by omega) (by omega)
  obtain ⟨x,h1,h2⟩:=zGd (k:= .w .i64 (0-k.val)) (by omega) (by omega)
  have g1:zdb (.w .i64 (0-k.val))=true:=by unfold zdb;rw [h1];rfl
  have f1:zg9 (.w .i64 (0-k.val))=x:=Tr.zao h1
  have hd:decide (k.val<0)=true:=by simpa using hn
  have e:zar k=zW x:=Tr.zao (by simp only [zcN,Tr.opt,hi,hd,g1,f1,cond_true,cond_false,Bool.not_true])
  rw [e]
  have:=h2.neg
  rw [e1,ztT,zi_0] at this
  rw [show zi k.val*log 2= -((0-zi k.val)*log 2) from by generalize zi k.val=a;generalize log 2=b;exact An.ring [a,b]]
  exact this
 ·obtain ⟨x,h1,h2⟩:=zGd (k:=k) (by omega) (by omega)
  have hd:decide (k.val<0)=false:=by simpa using hn
  have e:zar k=x:=Tr.zao (by
   simp only [zbD,Tr.opt,hd] at h1
   simp only [zcN,Tr.opt,hd]
   exact h1)
  rw [e];exact h2
theorem In.l08One:In 1 zaa:=by rw [<- zp2];exact In.one
def logP (q:Iv):Iv:=zH (zK ⟨1,rfl⟩ ⟨1,rfl⟩) (zz q (zH (zK ⟨1,rfl⟩ ⟨3,rfl⟩) (zz q (zH (zK ⟨1,rfl⟩ ⟨5,rfl⟩) (zz q (zH (zK ⟨1,rfl⟩ ⟨7,rfl⟩) (zz q (zH (zK ⟨1,rfl⟩ ⟨9,rfl⟩) (zz q (zK ⟨1,rfl⟩ ⟨11,rfl⟩))))))))))
theorem zyX (m:Iv) (e:I64):zij m e=zH (zar e) (zaT (zz (zz (zy ⟨2,rfl⟩) (zO (zac m zaa) (zH m zaa))) (logP (zbg (zO (zac m zaa) (zH m zaa))))) ⟨1,rfl⟩):=rfl
theorem In.q1:In (rat (1/1)) (zK ⟨1,rfl⟩ ⟨1,rfl⟩):=In.quot 0 (1/1)
theorem In.q3:In (rat (1/3)) (zK ⟨1,rfl⟩ ⟨3,rfl⟩):=In.quot 2 (1/3)
theorem In.q5:In (rat (1/5)) (zK ⟨1,rfl⟩ ⟨5,rfl⟩):=In.quot 4 (1/5)
theorem In.q7:In (rat (1/7)) (zK ⟨1,rfl⟩ ⟨7,rfl⟩):=In.quot 6 (1/7)
theorem In.q9:In (rat (1/9)) (zK ⟨1,rfl⟩ ⟨9,rfl⟩):=In.quot 8 (1/9)
theorem In.q11:In (rat (1/11)) (zK ⟨1,rfl⟩ ⟨11,rfl⟩):=In.quot 10 (1/11)
theorem In.logP {q:Re} {Q:Iv} (hs:In q Q):In (rat (1/1)+q*(rat (1/3)+q*(rat (1/5)+q*(rat (1/7)+q*(rat (1/9)+q*rat (1/11)))))) (logP Q):=
 In.q1.add (hs.mul (In.q3.add (hs.mul (In.q5.add (hs.mul (In.q7.add (hs.mul (In.q9.add (hs.mul In.q11)))))))))
theorem In.zij {μ:Re} {m:Iv} {E:I64} (hm:In μ m) (h1:rat (3/4)<=μ) (h2:μ<=rat (3/2)) (e1: -64<=E.val) (e2:E.val<=64):In (zi E.val*log 2+log μ) (zij m E):=by
 have hp:0<μ:=lt_of_lt_of_le (qp (3/4)) h1
 have hq:0<μ+1:=ppn hp (qn 1)
 have ez:(μ-1)/(μ+1)*(μ+1)=μ-1:=div_mul (ne_of_gt hq)
 have zb:An.abs ((μ-1)/(μ+1))<=rat (1/5):=by
  refine An.zeT ?_ ?_
  ·rw [zrR hq];exact zU [μ] (pn (kn (6/5) (sn h1)) (qn (1/10)))
  ·rw [zuq hq];exact zU [μ] (kn (4/5) (sn h2))
 have hz:In ((μ-1)/(μ+1)) (zO (zac m zaa) (zH m zaa)):=(hm.sub In.l08One).div (hm.add In.l08One)
 have near:=zE5 hp ez zb
 rw [zyX]
 generalize zO (zac m zaa) (zH m zaa)=Z at *
 generalize (μ-1)/(μ+1)=z at *
 have hs:=hz.sqr
 generalize zbg Z=Q at *
 have h2:In (2*z) (zz (zy ⟨2,rfl⟩) Z):=(In.int (n:=⟨2,rfl⟩) (by decide)).mul hz
 exact (In.log2 e1 e2).add ((h2.mul (In.logP hs)).widen near)
theorem In.logAt {n:I64} (hn:1<=n.val):In (log (fx n.val)) (zec n):=by
 by_cases hn2:n.val<=1152921504606846976
 ·obtain ⟨m,E,⟨k,k1,hk,b1,b2⟩,e⟩:=zCZ ⟨hn,hn2⟩
  rw [e]
  have hp2:=zt6 k
  have hpi:(0:Int)<2^k:=Int.pow_pos (by decide)
  have fp:0<fx n.val:=fx_p (by omega)
  have c1:rat (3/4)=fx 3221225472:=by
   show rat (3/4)=rat 3221225472*rat (1/4294967296)
   exact An.ring []
  have c2:rat (3/2)=fx 6442450944:=by
   show rat (3/2)=rat 6442450944*rat (1/4294967296)
   exact An.ring []
  have l2:=zAi k
  rcases hk with ⟨hE,lo,hi⟩|⟨hE,lh,lo⟩
  ·have ed:fx n.val/zi (2^k)*zi (2^k)=fx n.val:=div_mul (ne_of_gt hp2)
   have hmu:0<fx n.val/zi (2^k):=zBv fp hp2
   have f1:=zjF (p:=n.val) (d:=2^k) hpi
   have f2:=zjF (p:= -n.val) (d:=2^k) hpi
   have g1:fx m.lo.val<=fx n.val/zi (2^k):=by
    rw [lo,zrR hp2];unfold fx
    generalize zi (n.val/2^k)=a at *;generalize zi n.val=b at *;generalize zi (2^k)=c at *
    exact zU [a,b,c] (kn (1/4294967296) (sn f1))
   have g2:fx n.val/zi (2^k)<=fx m.hi.val:=by
    rw [hi,zuq hp2,zeR];unfold fx
    rw [zn2] at f2
    generalize zi (-n.val/2^k)=a at *;generalize zi n.val=b at *;generalize zi (2^k)=c at *
    exact zU [a,b,c] (kn (1/4294967296) (sn f2))
   have u:fx n.val/zi (2^k)<=rat (3/2):=by
    have:n.val<6442450944*2^k:=by
     rw [lo] at b2
     exact (Int.ediv_lt_iff_lt_mul hpi).1 b2
    rw [c2,zuq hp2]
    have:=zlh.2 (Int.le_of_lt this)
    rw [zc8] at this
    unfold fx
    generalize zi n.val=b at *;generalize zi (2^k)=c at *;generalize zi 6442450944=d at *
    exact zU [b,c,d] (kn (1/4294967296) (sn this))
   have key:=In.zij (μ:=fx n.val/zi (2^k)) (m:=m) (E:=E) (fun _=>⟨g1,g2⟩) (by rw [c1];exact le_trans (zer.2 b1) g1) u (by omega) (by omega)
   rw [zHr fp hp2,l2,hE] at key
   rw [show log (fx n.val)=zi k*log 2+(log (fx n.val)-zi k*log 2) from by generalize log (fx n.val)=a;generalize log 2=b;generalize zi (k:Int)=c;exact An.ring [a,b,c]]
   exact key
  ·have hmu:0<fx n.val*zi (2^k):=mp fp hp2
   have ev:fx m.lo.val=fx n.val*zi (2^k):=by
    rw [lo];unfold fx;rw [zc8]
    generalize zi n.val=b;generalize zi (2^k)=c
    exact An.ring [b,c]
   have key:=In.zij (μ:=fx n.val*zi (2^k)) (m:=m) (E:=E) (fun _=>by rw [<- lh,ev];exact ⟨le_refl _,le_refl _⟩) (by rw [c1,<- ev];exact zer.2 b1) (by rw [c2,<- ev];exact zer.2 (by omega)) (by omega) (by omega)
   rw [zpx fp hp2,l2,hE,zn2] at key
   rw [show log (fx n.val)= -zi k*log 2+(log (fx n.val)+zi k*log 2) from by generalize log (fx n.val)=a;generalize log 2=b;generalize zi (k:Int)=c;exact An.ring [a,b,c]]
   exact key
 ·rw [zrO (by omega)];exact In.whole _
theorem zC0 {n:I64} (h:ze (zec n)=true):1<=n.val:=by
 by_cases k:1<=n.val/\n.val<=1152921504606846976
 ·exact k.1
 ·rw [zrO k,zch] at h;cases h
theorem In.log {x:Re} {a:Iv} (h:In x a):In (An.log x) (zin a):=by
 simp only [zin,znI,Tr.get]
 cases ha:ze a
 ·exact In.whole _
 ·simp only [Bool.not_true,cfl]
  obtain ⟨h1,h2⟩:=h ha
  refine In.zzb fun o1 o2=>?_
  have n1:=zC0 o1
  have p1:0<fx a.lo.val:=fx_p (by omega)
  have b:=(zbC a).1 ha
  exact ⟨le_trans (In.logAt n1 o1).1 (zoy p1 h1),le_trans (zoy (lt_of_lt_of_le p1 h1) h2) (In.logAt (by omega) o2).2⟩
theorem In.circle {n:I64} (h1: -4294967296<=n.val) (h2:n.val<=4294967296):In (An.sqrt (1-fx n.val*fx n.val)) (zeJ n):=by
 have e1:(Rng.w .i64 (4294967296-n.val)).val=4294967296-n.val:=wi (by omega) (by omega)
 have e2:(Rng.w .i64 (4294967296+n.val)).val=4294967296+n.val:=wi (by omega) (by omega)
 have hi:zX n ⟨(-4294967296),rfl⟩ ⟨4294967296,rfl⟩=true:=by rw [zcO];simp;omega
 obtain ⟨q,f1,f2,f3,f4,f5⟩:=zCd (.w .i64 (4294967296-n.val)) (.w .i64 (4294967296+n.val)) (by omega) (by omega)
 rw [e1,e2] at f4 f5
 have key:1-fx n.val*fx n.val=zi ((4294967296-n.val)*(4294967296+n.val))*rat (1/18446744073709551616):=by
  rw [zc8,ztT,zpW];unfold fx
  rw [show zi 4294967296=rat 4294967296 from rfl]
  generalize zi n.val=a
  exact An.ring [a]
 have hn:0<=1-fx n.val*fx n.val:=by
  rw [key]
  have:=zBE (Int.mul_nonneg (show 0<=4294967296-n.val by omega) (show 0<=4294967296+n.val by omega))
  exact mn this (qn _)
 have hs:=zo7 hn
 have hS:=An.zrb (1-fx n.val*fx n.val)
 rw [key] at hs hS ⊢
 generalize An.sqrt _=S at *
 have l1:fx q.val<=S:=zob hS (by rw [hs,zDf];exact zEj f4)
 have l2:S<=fx (q.val+1):=zob (zBq (by omega)) (by rw [hs,zDf];exact zEj (Int.le_of_lt f5))
 have hm:=Ev.zfC (Rng.w .i64 (4294967296-n.val)).bd (Rng.w .i64 (4294967296+n.val)).bd
 have hm2:=Ev.zfC q.bd q.bd
 simp only [zeJ,zjS,Tr.get,hi,f1,Bool.not_true,cfl]
 generalize hc:(!((zdv q q).hi.val==(zdv (Rng.w .i64 (4294967296-n.val)) (Rng.w .i64 (4294967296+n.val))).hi.val&&((zdv q q).lo.val==(zdv (Rng.w .i64 (4294967296-n.val)) (Rng.w .i64 (4294967296+n.val))).lo.val&&true)))=c
 cases c
 ·rw [zBY,zBY] at hc
  simp only [Bool.not_eq_false',Bool.and_eq_true,beq_iff_eq,and_true] at hc
  have w1:=zjN (v:=q.val*q.val) (by omega) (by omega)
  have w2:=zjN (v:=(Rng.w .i64 (4294967296-n.val)).val*(Rng.w .i64 (4294967296+n.val)).val) (by omega) (by omega)
  have hq:q.val*q.val=(4294967296-n.val)*(4294967296+n.val):=by
   rw [<- w1,<- e1,<- e2,<- w2];unfold wv;rw [hc.1,hc.2]
  have l3:S<=fx q.val:=zob (zBq f3) (by rw [hs,zDf,hq];exact le_refl _)
  exact fun _=>⟨l1,l3⟩
 ·simp only [ctr]
  refine fun ok=>⟨l1,?_⟩
  have hq:q.val+1<=9223372036854775807:=by
   by_cases hh:q.val+1<=9223372036854775807
   ·exact hh
   ·have h3:(4294967296:Int)*4294967296<=q.val*q.val:=Int.mul_le_mul (by omega) (by omega) (by decide) (by omega)
    have h4:(9223372036854775807:Int)*9223372036854775807<=q.val*q.val:=Int.mul_le_mul (by omega) (by omega) (by decide) (by omega)
    have h5:(4294967296-n.val)*(4294967296+n.val)=4294967296*4294967296-n.val*n.val:=by
     rw [Int.sub_mul,Int.mul_add,Int.mul_add,Int.mul_comm n.val 4294967296];omega
    have h6:0<=n.val*n.val:=by
     rcases Int.le_total 0 n.val with k|k
     ·exact Int.mul_nonneg k k
     ·exact Int.mul_nonneg_of_nonpos_of_nonpos k k
    omega
  show S<=fx (Rng.w .i64 (q.val+1)).val
  rw [wi (n:=q.val+1) (by omega) hq];exact l2
theorem In.asinAt {n:I64} (h1: -4294967296<=n.val) (h2:n.val<=4294967296):In (An.asin (fx n.val)) (zed n):=by
 have hi:zX n ⟨(-4294967296),rfl⟩ ⟨4294967296,rfl⟩=true:=by rw [zcO];simp;omega
 simp only [zed,zlE,Tr.get,hi,Bool.not_true,cfl]
 have b1: -1<=fx n.val:=by rw [<- zBr];exact zer.2 h1
 have b2:fx n.val<=1:=by rw [<- fx_1];exact zer.2 h2
 have p:In (fx n.val) (zbq n):=by simp only [zbq,zhk,Tr.get];exact In.point
 have q:In (An.asin (fx n.val)) (zbG (zeV (zO (zbq n) (zH (zy ⟨1,rfl⟩) (zeJ n))))):=(p.div (In.one.add (In.circle h1 h2))).atan.dbl
 have bd:=zD7 b1 b2
 exact (In.meetI q (In.quarter bd.1 bd.2)).1
theorem In.asin {x:Re} {a:Iv} (h:In x a) (h1: -1<=x) (h2:x<=1):In (An.asin x) (zf2 a):=by
 obtain ⟨m1,m2⟩:=In.meetI h (In.ring h1 h2)
 have e:zaG a=(za4 a zR).a:=by
  simp only [zaG,ziu,Tr.get,m2,Bool.not_true,cfl]
 have hasin:zf2 a=bif !(za4 a zR).b then zt else zaM (zed (za4 a zR).a.lo) (zed (za4 a zR).a.hi):=by
  simp only [zf2,zmH,Tr.get,zdi]
 obtain ⟨o,r1,r2,_,_⟩:=zrI a
 rw [e] at o r1 r2
 rw [hasin,m2]
 simp only [Bool.not_true,cfl]
 generalize (za4 a zR).a=M at *
 have b:=(zbC M).1 o
 obtain ⟨l1,l2⟩:=m1 o
 have c1: -1<=fx M.lo.val:=by rw [<- zBr];exact zer.2 r1
 have c2:fx M.hi.val<=1:=by rw [<- fx_1];exact zer.2 r2
 exact In.between (In.hull_l (In.asinAt (n:=M.lo) (by omega) (by omega))) (In.hull_r (In.asinAt (n:=M.hi) (by omega) (by omega))) (zD5 c1 l1 h2) (zD5 h1 l2 c2)
end Go.Proofs.YtkenfaengphiiaaGreatDoor.Nc
namespace Go.Proofs.YtkenfaengphiiaaGreatDoor.Nc
open Go Go.Proofs.YtkenfaengphiiaaGreatDoor.An
open Go.Proofs.YtkenfaengphiiaaGreatDoor.Ev hiding mn zfC neg_eq zmJ sub_eq
def eH (x:Re):Re:=1+x*(1+x*(1+x*(1+x*(1+x*(1+x*(1+x*(1+x*(1+x*1*rat (1/9))*rat (1/8))*rat (1/7))*rat (1/6))*rat (1/5))*rat (1/4))*rat (1/3))*rat (1/2))*rat (1/1)
theorem ec0:(1/((0+1:Nat):Rat))=1/1:=by decide +kernel
theorem ec1:(1/((1+1:Nat):Rat))=1/2:=by decide +kernel
theorem ec2:(1/((2+1:Nat):Rat))=1/3:=by decide +kernel
theorem ec3:(1/((3+1:Nat):Rat))=1/4:=by decide +kernel
theorem ec4:(1/((4+1:Nat):Rat))=1/5:=by decide +kernel
theorem ec5:(1/((5+1:Nat):Rat))=1/6:=by decide +kernel
theorem ec6:(1/((6+1:Nat):Rat))=1/7:=by decide +kernel
theorem ec7:(1/((7+1:Nat):Rat))=1/8:=by decide +kernel
theorem ec8:(1/((8+1:Nat):Rat))=1/9:=by decide +kernel
theorem zFq (x h:Re):1+x*(1+x*(1+x*(1+x*(1+x*h*rat (1/5))*rat (1/4))*rat (1/3))*rat (1/2))*rat (1/1)=1+x+x*x*rat (1/2)+x*x*x*rat (1/6)+x*x*x*x*rat (1/24)+x*x*x*x*x*rat (1/120)*h:=An.ring [x,h]
theorem zHO (x m:Re):m+m*x*rat (1/6)+m*x*rat (1/6)*x*rat (1/7)+m*x*rat (1/6)*x*rat (1/7)*x*rat (1/8)+m*x*rat (1/6)*x*rat (1/7)*x*rat (1/8)*x*rat (1/9)=m*(1+x*(1+x*(1+x*(1+x*1*rat (1/9))*rat (1/8))*rat (1/7))*rat (1/6)):=An.ring [x,m]
theorem zHP (x m a b c d:Re):0+rat 1*1+rat 1*(1*x*rat (1/1))+rat 1*(1*x*rat (1/1)*x*rat (1/2))+rat 1*(1*x*rat (1/1)*x*rat (1/2)*x*rat (1/3))+rat 1*(1*x*rat (1/1)*x*rat (1/2)*x*rat (1/3)*x*rat (1/4))+rat 1*m+rat 1*a+rat 1*b+rat 1*c+rat 1*d
  = 1+x+x*x*rat (1/2)+x*x*x*rat (1/6)+x*x*x*x*rat (1/24)+(m+a+b+c+d):=An.ring [x,m,a,b,c,d]
theorem zHQ (x:Re):1*x*rat (1/1)*x*rat (1/2)*x*rat (1/3)*x*rat (1/4)*x*rat (1/5)=x*x*x*x*x*rat (1/120):=An.ring [x]
theorem zLf (x:Re):psum one x 10=eH x:=by
 unfold eH
 rw [zFq]
 simp only [psum,mon,one,ec0,ec1,ec2,ec3,ec4,ec5,ec6,ec7,ec8]
 rw [zHP,zHO,zHQ]
theorem zDv {x:Re} (h:An.abs x<=rat (7/20)):An.abs (An.exp x-eH x)<=rat (1/4294967296):=by
 have t:=zoc zxc h (i:=10) (zj1 (2*(7/20)) ((10+1:Nat):Rat))
 rw [zLf,zpt] at t
 exact le_trans t (zj1 (2*monQ (7/20) 10) (1/4294967296))
theorem zHV {t y:Re} {q:Rat} (hy:y≠0) (h:y*rat q=1):t/y=t*rat q:=by
 have k:=div_mul (x:=t) (y:=y) hy
 generalize t/y=u at *;generalize rat q=c at *
 rw [<- k,show u*y*c=u*(y*c) from An.ring [u,y,c],h]
 exact An.ring [u]
theorem In.expS {x p:Re} {r P:Iv} {n:I64} (q:Rat) (hx:In x r) (hp:In p P) (hn:1<=n.val/\n.val<=268435455) (h:zi n.val*rat q=1):In (1+x*p*rat q) (Ev.expS r n P):=by
 have hz:zi n.val≠0:=ne_of_gt (zwa.2 (show (0:Int)<n.val by omega))
 have k:=In.l08One.add ((hx.mul hp).div (In.int (n:=n) (by omega)))
 rw [zHV hz h] at k
 exact k
theorem In.expP {x:Re} {r:Iv} (hx:In x r):In (eH x) (Ev.expP r):=by
 refine In.expS (n:=⟨1,rfl⟩) (1/1) hx ?_ (by decide) (show rat 1*rat (1/1)=1 from An.ring [])
 refine In.expS (n:=⟨2,rfl⟩) (1/2) hx ?_ (by decide) (show rat 2*rat (1/2)=1 from An.ring [])
 refine In.expS (n:=⟨3,rfl⟩) (1/3) hx ?_ (by decide) (show rat 3*rat (1/3)=1 from An.ring [])
 refine In.expS (n:=⟨4,rfl⟩) (1/4) hx ?_ (by decide) (show rat 4*rat (1/4)=1 from An.ring [])
 refine In.expS (n:=⟨5,rfl⟩) (1/5) hx ?_ (by decide) (show rat 5*rat (1/5)=1 from An.ring [])
 refine In.expS (n:=⟨6,rfl⟩) (1/6) hx ?_ (by decide) (show rat 6*rat (1/6)=1 from An.ring [])
 refine In.expS (n:=⟨7,rfl⟩) (1/7) hx ?_ (by decide) (show rat 7*rat (1/7)=1 from An.ring [])
 refine In.expS (n:=⟨8,rfl⟩) (1/8) hx ?_ (by decide) (show rat 8*rat (1/8)=1 from An.ring [])
 exact In.expS (n:=⟨9,rfl⟩) (1/9) hx In.l08One (by decide) (show rat 9*rat (1/9)=1 from An.ring [])
theorem zvL (k:Nat):An.exp (zi k*An.log 2)=zi (2^k):=by rw [<- zAi,zj8 (zt6 k)]
theorem zr0 (x:Re):An.exp (-x)*An.exp x=1:=by
 have:=zr1 x
 generalize An.exp x=a at *;generalize An.exp (-x)=b at *
 rw [<- this];exact An.ring [a,b]
theorem zF6 {m:Nat} (h:m<=60):(1:Int)<=2^m/\(2:Int)^m<=1152921504606846976:=by
 refine ⟨Int.add_one_le_of_lt (Int.pow_pos (show (0:Int)<2 by decide)),?_⟩
 have:(2:Nat)^m<=2^60:=Nat.pow_le_pow_right (by decide) h
 have h2:((2^m:Nat):Int)=(2:Int)^m:=by simp
 rw [<- h2];omega
theorem In.scaleUp {y:Re} {a:Iv} {k:I64} (m:Nat) (hk:k.val=(m:Int)) (hm:m<=29) (ha: -1<=a.lo.val/\a.lo.val<=a.hi.val/\a.hi.val<=8589934593) (h:In y a):In (y*zi (2^m)) (zbE a k):=by
 have hd:decide (k.val>=0)=true:=by simp;omega
 have hu:(Rng.w .u64 k.val).val=k.val:=wu (by omega) (by omega)
 simp only [zbE,zfH,Tr.get,hd,ctr,hu]
 have hmin:min k.val.toNat 64=m:=by omega
 rw [hmin]
 have ok:ze a=true:=(zbC a).2 (by omega)
 obtain ⟨h1,h2⟩:=h ok
 have hp:(1:Int)<=2^m/\(2:Int)^m<=536870912:=by
  refine ⟨(zF6 (show m<=60 by omega)).1,?_⟩
  have:(2:Nat)^m<=2^29:=Nat.pow_le_pow_right (by decide) hm
  have h2:((2^m:Nat):Int)=(2:Int)^m:=by simp
  rw [<- h2];omega
 have z:=zt6 m
 generalize (2:Int)^m=t at *
 have l1: -t<=a.lo.val*t:=by
  have:=Int.mul_le_mul_of_nonneg_right (show (-1:Int)<=a.lo.val by omega) (show 0<=t by omega)
  omega
 have l2:a.lo.val*t<=a.hi.val*t:=Int.mul_le_mul_of_nonneg_right ha.2.1 (by omega)
 have l3:a.hi.val*t<=8589934593*t:=Int.mul_le_mul_of_nonneg_right ha.2.2 (by omega)
 refine In.make ?_
 rw [wi (n:=a.lo.val*t) (by omega) (by omega),wi (n:=a.hi.val*t) (by omega) (by omega)]
 unfold fx at *
 rw [zc8,zc8]
 generalize zi a.lo.val=p at *;generalize zi a.hi.val=q at *;generalize zi t=u at *;generalize rat (1/4294967296)=e at *
 exact ⟨zU [p,u,e,y] (An.mn (sn h1) (le_of_lt z)),zU [q,u,e,y] (An.mn (sn h2) (le_of_lt z))⟩
theorem In.scaleDn {y:Re} {a:Iv} {k:I64} (m:Nat) (hk:k.val= -(m:Int)) (hm:m<=40) (hm0:0<m) (ha: -1<=a.lo.val/\a.lo.val<=a.hi.val/\a.hi.val<=8589934593) (h:In y a):In (y/zi (2^m)) (zbE a k):=by
 have hd:decide (k.val>=0)=false:=by simp;omega
 have e1:(Rng.w .i64 (0-k.val)).val= -k.val:=by rw [wi (by omega) (by omega)];omega
 have hu:(Rng.w .u64 (-k.val)).val= -k.val:=wu (by omega) (by omega)
 simp only [zbE,zfH,Tr.get,hd,cfl,e1,hu]
 have hmin:min (-k.val).toNat 64=m:=by omega
 rw [hmin]
 have ok:ze a=true:=(zbC a).2 (by omega)
 obtain ⟨h1,h2⟩:=h ok
 have hp:=(zF6 (show m<=60 by omega)).1
 have z:=zt6 m
 generalize (2:Int)^m=t at *
 have hpi:0<t:=by omega
 have n1:(Rng.w .i64 (0-a.hi.val)).val= -a.hi.val:=by rw [wi (by omega) (by omega)];omega
 have g1:a.lo.val.fdiv t=a.lo.val/t:=Int.fdiv_eq_ediv_of_nonneg _ (by omega)
 have g2:(-a.hi.val).fdiv t= -a.hi.val/t:=Int.fdiv_eq_ediv_of_nonneg _ (by omega)
 have b1:=zlX (M:=8589934593) (N:=a.lo.val) (d:=t) (by omega) (by omega) (by omega)
 have b2:=zlX (M:=8589934593) (N:= -a.hi.val) (d:=t) (by omega) (by omega) (by omega)
 have f1:=zjF (p:=a.lo.val) (d:=t) hpi
 have f2:=zjF (p:= -a.hi.val) (d:=t) hpi
 rw [n1,g1,g2]
 have v1:(Rng.w .i64 (a.lo.val/t)).val=a.lo.val/t:=wi (by omega) (by omega)
 have v2:(Rng.w .i64 (-a.hi.val/t)).val= -a.hi.val/t:=wi (by omega) (by omega)
 have v3:(Rng.w .i64 (0-(Rng.w .i64 (-a.hi.val/t)).val)).val= -(-a.hi.val/t):=by rw [v2,wi (by omega) (by omega)];omega
 refine In.make ?_
 rw [v1,v3,zrR z,zuq z,zeR]
 rw [zn2] at f2
 unfold fx at *
 generalize zi (a.lo.val/t)=u at *;generalize zi (-a.hi.val/t)=v at *;generalize zi a.lo.val=p at *;generalize zi a.hi.val=q at *;generalize zi t=c at *
 generalize hE:rat (1/4294967296)=e at *
 have e0:0<=e:=by rw [<- hE];exact qn (1/4294967296)
 exact ⟨zU [u,c,p,e,y] (pn (An.mn (sn f1) e0) (sn h1)),zU [v,c,q,e,y] (pn (An.mn (sn f2) e0) (sn h2))⟩
theorem zE7:An.abs (An.log 2-fx 2977044472)<=rat (1/4294967296):=by
 have l1:=zC2
 have l2:=zyY
 rw [show fx 2977044472=rat (2977044472/4294967296) from by show rat 2977044472*rat (1/4294967296)=_;exact An.ring []]
 refine An.zeT ?_ ?_
 ·exact zU [An.log 2] (pn (sn l1) (qn (1598288580650331957/2305843009213693952-2977044472/4294967296+1/4294967296)))
 ·exact zU [An.log 2] (pn (sn l2) (qn (2977044472/4294967296+1/4294967296-1598288580650331958/2305843009213693952)))
theorem zGV {n k:Int} (hn: -98784247808<=n/\n<=85899345920) (hk:k=(2*n+2977044472)/5954088944):An.abs (fx n-zi k*An.log 2)<=rat (7/20):=by
 have kb: -34<=k/\k<=29:=by omega
 have h1:2*(k*2977044472)<=2*n+2977044472:=by omega
 have h2:2*n-2977044472<=2*(k*2977044472):=by omega
 have z1:=zlh.2 h1
 have z2:=zlh.2 h2
 have k1:=zlh.2 kb.1
 have k2:=zlh.2 kb.2
 obtain ⟨t1,t2⟩:=zdT zE7
 rw [zc8,zc8,zpW,zc8] at z1
 rw [zc8,zc8,ztT,zc8] at z2
 unfold fx at *
 generalize zi n=N at *;generalize zi k=K at *;generalize An.log 2=L at *
 have z1':rat 2*(K*rat 2977044472)<=rat 2*N+rat 2977044472:=z1
 have z2':rat 2*N-rat 2977044472<=rat 2*(K*rat 2977044472):=z2
 have k1':rat (-34)<=K:=k1
 have k2':K<=rat 29:=k2
 have t1': -rat (1/4294967296)<=L-rat 2977044472*rat (1/4294967296):=t1
 have t2':L-rat 2977044472*rat (1/4294967296)<=rat (1/4294967296):=t2
 have a1:0<=K+34:=zU [K] (sn k1')
 have a2:0<=34-K:=zU [K] (pn (sn k2') (qn 5))
 have d1:0<=L-rat 2977044472*rat (1/4294967296)+rat (1/4294967296):=zU [L] (sn t1')
 have d2:=sn t2'
 have m1:=pn (An.mn a1 d1) (An.mn a2 d2)
 have m2:=pn (An.mn a2 d1) (An.mn a1 d2)
 refine An.zeT ?_ ?_
 ·exact zU [N,K,L] (pn (pn (kn (1/8589934592) (sn z1')) (kn (1/2) m2)) (qn (7/20-2977044472/8589934592-34/4294967296)))
 ·exact zU [N,K,L] (pn (pn (kn (1/8589934592) (sn z2')) (kn (1/2) m1)) (qn (7/20-2977044472/8589934592-34/4294967296)))
theorem zDx {n:I64} (hn: -98784247808<=n.val/\n.val<=85899345920):∃k:I64,k.val=(2*n.val+2977044472)/5954088944/\zc4 n=zbE (zaT (Ev.expP (zac (za2 n) (zar k))) ⟨1,rfl⟩) k:=by
 have h0:zG n=true:=ok3 (by omega)
 have h1:decide (n.val>85899345920)=false:=by simp;omega
 have h2:decide (n.val < -98784247808)=false:=by simp;omega
 have e1:(Rng.w .i64 (2*n.val)).val=2*n.val:=wi (by omega) (by omega)
 have e2:(Rng.w .i64 (2*n.val+2977044472)).val=2*n.val+2977044472:=wi (by omega) (by omega)
 simp only [zc4,zhn,Tr.get,h0,h1,h2,Bool.not_true,cfl,e1,e2]
 generalize hN:2*n.val+2977044472=N
 have t1:=Int.tdiv_eq_ediv (a:=N) (b:=5954088944)
 generalize hq:N.tdiv 5954088944=q at *
 generalize hm:N.tmod 5954088944=r at *
 have hqr:N=5954088944*q+r:=by rw [<- hq,<- hm];exact (Int.mul_tdiv_add_tmod N 5954088944).symm
 have hr: -5954088944<r/\r<5954088944/\(0<=N->0<=r)/\(N<0->r<=0):=by
  rw [<- hm]
  refine ⟨?_,?_,?_,?_⟩
  ·have:=Int.lt_tmod_of_pos N (show (0:Int)<5954088944 by decide);omega
  ·have:=Int.tmod_lt_of_pos N (show (0:Int)<5954088944 by decide);omega
  ·exact fun h=>Int.tmod_nonneg _ h
  ·intro h
   have:=Int.neg_tmod (-N) 5954088944
   have h3:=Int.tmod_nonneg (a:= -N) 5954088944 (by omega)
   rw [Int.neg_neg] at this
   omega
 have hqb: -40<=q/\q<=40:=by omega
 have v1:(Rng.w .i64 q).val=q:=wi (by omega) (by omega)
 have v4:(Rng.w .i64 r).val=r:=wi (by omega) (by omega)
 have v5:(Rng.w .i64 (q-1)).val=q-1:=wi (by omega) (by omega)
 rw [v1,v4]
 by_cases hlt:r<0
 ·have d2:decide (r<0)=true:=by simpa using hlt
  rw [d2]
  exact ⟨.w .i64 (q-1),by rw [v5];omega,rfl⟩
 ·have d2:decide (r<0)=false:=by simpa using hlt
  rw [d2]
  exact ⟨.w .i64 q,by rw [v1];omega,rfl⟩
theorem In.expAt {n:I64}:In (An.exp (fx n.val)) (zc4 n):=by
 by_cases hn: -98784247808<=n.val/\n.val<=85899345920
 ·obtain ⟨k,hk,e⟩:=zDx hn
  rw [e]
  have kb: -34<=k.val/\k.val<=29:=by omega
  have hr:=zGV hn hk
  have hat:In (fx n.val) (za2 n):=by rw [atV (by omega)];exact In.point
  have hx:=hat.sub (In.log2 (k:=k) (by omega) (by omega))
  have hw:=(In.expP hx).widen (zDv hr)
  have h1:=zDw (zCj hn hk)
  obtain ⟨w1,w2,w3⟩:=zzC h1
  have bd: -1<=(zaT (Ev.expP (zac (za2 n) (zar k))) ⟨1,rfl⟩).lo.val/\(zaT (Ev.expP (zac (za2 n) (zar k))) ⟨1,rfl⟩).lo.val<=(zaT (Ev.expP (zac (za2 n) (zar k))) ⟨1,rfl⟩).hi.val/\(zaT (Ev.expP (zac (za2 n) (zar k))) ⟨1,rfl⟩).hi.val<=8589934593:=by
   unfold In02 at h1
   rw [w1]
   simp only [w2,w3]
   omega
  have ex:An.exp (fx n.val)=An.exp (fx n.val-zi k.val*An.log 2)*An.exp (zi k.val*An.log 2):=by
   rw [<- zr2]
   congr 1
   generalize fx n.val=a;generalize zi k.val*An.log 2=b
   exact An.ring [a,b]
  rw [ex]
  by_cases k0:0<=k.val
  ·obtain ⟨m,hm⟩:=Int.eq_ofNat_of_zero_le k0
   have:=hw.scaleUp m hm (by omega) bd
   rw [show zi k.val=zi (m:Int) from by rw [hm],zvL]
   rw [hm] at this
   exact this
  ·obtain ⟨m,hm⟩:∃m:Nat,k.val= -(m:Int):=⟨(-k.val).toNat,by omega⟩
   have:=hw.scaleDn m hm (by omega) (by omega) bd
   have hz:=ne_of_gt (zt6 m)
   have hi:=zr0 (zi m*An.log 2)
   rw [zvL] at hi
   have e2:An.exp (zi k.val*An.log 2)=1/zi (2^m):=by
    refine zgN hz ?_
    rw [div_mul hz,hm,zn2,show -zi (m:Int)*An.log 2= -(zi (m:Int)*An.log 2) from by generalize zi (m:Int)=a;generalize An.log 2=b;exact An.ring [a,b]]
    exact hi
   rw [e2]
   have e3:∀y:Re,y*(1/zi (2^m))=y/zi (2^m):=fun y=>by
    rw [div_eq,div_eq]
    generalize (zi (2^m))⁻¹=i
    exact An.ring [y,i]
   rw [e3]
   exact this
 ·by_cases h0:zG n=true
  ·by_cases h1:n.val>85899345920
   ·simp only [zc4,zhn,Tr.get,h0,h1,decide_true,Bool.not_true,ctr,cfl]
    exact In.whole _
   ·have h2:n.val < -98784247808:=by omega
    have d1:decide (n.val>85899345920)=false:=by simp;omega
    simp only [zc4,zhn,Tr.get,h0,d1,h2,decide_true,Bool.not_true,ctr,cfl]
    intro _
    have p:=znS (fx n.val)
    have b:An.exp (fx n.val)<=rat (1/4294967296):=by
     have m1:fx n.val <= -(zi (32:Nat)*An.log 2):=by
      have f:=zer.2 (Int.le_of_lt h2)
      rw [show fx (-98784247808)=rat (-23) from by show rat (-98784247808)*rat (1/4294967296)=_;exact An.ring []] at f
      refine le_trans f ?_
      have l2:=zyY
      show rat (-23) <= -(rat 32*An.log 2)
      generalize An.log 2=L at *
      exact zU [L] (pn (kn 32 (sn l2)) (qn (23-32*(1598288580650331958/2305843009213693952))))
     have m2:=zoE m1
     have hi:=zr0 (zi (32:Nat)*An.log 2)
     rw [zvL] at hi
     have hi':An.exp (-(zi (32:Nat)*An.log 2))*rat 4294967296=1:=hi
     generalize An.exp (-(zi (32:Nat)*An.log 2))=u at *;generalize An.exp (fx n.val)=v at *
     have:u=rat (1/4294967296):=by
      rw [show u=u*rat 4294967296*rat (1/4294967296) from An.ring [u],hi']
      exact An.ring []
     rw [<- this];exact m2
    refine ⟨?_,?_⟩
    ·show fx 0<=_
     rw [fx_0];exact le_of_lt p
    ·show _<=fx 1
     rw [zGg];exact b
  ·have h0':zG n=false:=by simpa using h0
   simp only [zc4,zhn,Tr.get,h0',Bool.not_false,ctr]
   exact In.whole _
end Go.Proofs.YtkenfaengphiiaaGreatDoor.Nc
namespace Go.Proofs.YtkenfaengphiiaaGreatDoor.An
theorem nle' {x y:Re} (h:x<y):¬y<=x:=fun k=>lt_irrefl _ (lt_of_lt_of_le h k)
def shy (x:Re):Re:=(exp x-exp (-x))*rat (1/2)
def ash (x:Re):Re:=log (x+sqrt (x*x+1))
theorem zzO {x y:Re} (h:x<=y):shy x<=shy y:=by
 have h1:=zoE h
 have h2:=zoE (x:= -y) (y:= -x) (zU [x,y] (sn h))
 unfold shy
 generalize exp x=a at *;generalize exp y=b at *;generalize exp (-x)=c at *;generalize exp (-y)=d at *
 exact zU [a,b,c,d] (kn (1/2) (pn (sn h1) (sn h2)))
theorem zID {x y:Re} (h:x<y):shy x<shy y:=by
 have h1:=zAu h
 have h2:=zoE (x:= -y) (y:= -x) (zU [x,y] (sn (le_of_lt h)))
 unfold shy
 generalize exp x=a at *;generalize exp y=b at *;generalize exp (-x)=c at *;generalize exp (-y)=d at *
 exact zfU [a,b,c,d] (mp (qp (1/2)) (ppn (sp h1) (sn h2)))
theorem zD9 (x:Re):0<=sqrt (x*x+1)/\sqrt (x*x+1)*sqrt (x*x+1)=x*x+1/\0<x+sqrt (x*x+1):=by
 have hp:0<=x*x+1:=pn (sqn x) (qn 1)
 have h1:=zrb (x*x+1)
 have h2:=zo7 hp
 refine ⟨h1,h2,?_⟩
 generalize sqrt (x*x+1)=s at *
 rcases lt_or_le 0 (x+s) with k|k
 ·exact k
 ·exfalso
  have n1:0 <= -x-s:=zU [x,s] (sn k)
  have m1:=mn n1 (pn n1 (pn h1 h1))
  have:(-x-s)*(-x-s+(s+s))= -1:=by
   have e:(-x-s)*(-x-s+(s+s))=x*x-s*s:=ring [x,s]
   rw [e,h2];exact ring [x]
  rw [this] at m1
  exact absurd m1 (nle' (zfU [] (qp 1)))
theorem zzq (x:Re):(x+sqrt (x*x+1))*(-x+sqrt (x*x+1))=1:=by
 have h:=(zD9 x).2.1
 generalize sqrt (x*x+1)=s at *
 rw [show (x+s)*(-x+s)=s*s-x*x from ring [x,s],h]
 exact ring [x]
theorem zu4 (x:Re):shy (ash x)=x:=by
 have hp:=(zD9 x).2.2
 have hi:=zzq x
 have e1:exp (ash x)=x+sqrt (x*x+1):=zj8 hp
 have e2:=zr1 (ash x)
 rw [e1] at e2
 have e3:exp (-ash x)= -x+sqrt (x*x+1):=by
  refine zgN (ne_of_gt hp) ?_
  generalize x+sqrt (x*x+1)=u at *;generalize -x+sqrt (x*x+1)=v at *;generalize exp (-ash x)=t at *
  rw [show t*u=u*t from ring [t,u],e2,<- hi];exact ring [u,v]
 unfold shy
 rw [e1,e3]
 generalize sqrt (x*x+1)=s
 exact ring [x,s]
theorem zAQ {x y:Re} (h:x<=y):ash x<=ash y:=by
 rcases lt_or_le (ash y) (ash x) with k|k
 ·have:=zID k
  rw [zu4,zu4] at this
  exact absurd h (nle' this)
 ·exact k
theorem zzp (x:Re):ash (-x)= - ash x:=by
 have hp:=(zD9 x).2.2
 have hq:=(zD9 (-x)).2.2
 have hi:=zzq x
 unfold ash
 rw [show -x * -x=x*x from ring [x]] at *
 have:=zpx hp hq
 rw [hi,zCV] at this
 generalize log (x+sqrt (x*x+1))=a at *;generalize log (-x+sqrt (x*x+1))=b at *
 rw [show b=a+b-a from ring [a,b],<- this];exact ring [a]
theorem zIb {x:Re} (h:rat 8192<=x):0<=ash x-(log 2+log x)/\ash x-(log 2+log x)<=rat (1/268435456):=by
 have hx:0<x:=lt_of_lt_of_le (qp 8192) h
 obtain ⟨s1,s2,s3⟩:=zD9 x
 have hi:=zzq x
 have l2:log 2+log x=log (2*x):=(zpx zGB hx).symm
 have hxx:0<2*x:=mp zGB hx
 have u:=zxn hxx s3
 rw [l2]
 have big:x<=sqrt (x*x+1):=by
  refine zob s1 ?_
  rw [s2];exact zU [x] (qn 1)
 have lo:log (2*x)<=log (x+sqrt (x*x+1)):=zoy hxx (by generalize sqrt (x*x+1)=s at *;exact zU [x,s] (sn big))
 unfold ash
 generalize log (2*x)=L at *;generalize log (x+sqrt (x*x+1))=M at *;generalize sqrt (x*x+1)=s at *
 refine ⟨sn lo,?_⟩
 have d0:0<=M-L:=sn lo
 -- (M - L) * 2x <= s - x and (s - x) * (s + x) = 1
 have t1:(M-L)*(2*x)*(x+s)<=1:=by
  rw [<- hi]
  have:=mn (sn u) (le_of_lt s3)
  exact zU [M,L,x,s] this
 -- 2x * (x + s) >= 4 x² >= 2^28
 rcases lt_or_le (rat (1/268435456)) (M-L) with k|k
 ·exfalso
  have hx1:0<=x-rat 8192:=sn h
  have b1:rat 268435456<=(2*x)*(x+s):=zU [x,s] (pn (kn 2 (mn (le_of_lt hx) (sn big))) (pn (kn 4 (mn hx1 hx1)) (kn 65536 hx1)))
  have hp2:0<(2*x)*(x+s):=mp hxx s3
  have b2:(1:Re)<(M-L)*(2*x)*(x+s):=by
   rw [show (M-L)*(2*x)*(x+s)=(M-L)*((2*x)*(x+s)) from ring [M,L,x,s]]
   generalize (2*x)*(x+s)=p at *
   exact zfU [M,L,p] (ppn (mp (sp k) hp2) (kn (1/268435456) (sn b1)))
  exact absurd t1 (nle' b2)
 ·exact k
theorem zzK {a b t u:Re} (h:a<=b) (h1: -hp<a) (h2:b<hp) (e1:sin a=t*cos a) (e2:sin b=u*cos b):t<=u:=by
 have ca:=zl0 h1 (lt_of_le_of_lt h h2)
 have cb:=zl0 (lt_of_lt_of_le h1 h) h2
 have ppi:hp+hp=pi:=by unfold pi;exact ring [hp]
 have s:=zIB (x:=b-a) (sn h) (by rw [<- ppi];generalize hp=p at *;exact zU [a,b,p] (pn (sn (le_of_lt h1)) (sn (le_of_lt h2))))
 rw [zo8,e1,e2] at s
 generalize cos a=c at *;generalize cos b=d at *
 rcases lt_or_le u t with k|k
 ·exfalso
  have m:=mp (sp k) (mp ca cb)
  have:u*d*c-d*(t*c)= -((t-u)*(c*d)):=ring [u,d,c,t]
  rw [this] at s
  generalize (t-u)*(c*d)=z at *
  exact absurd s (nle' (zfU [z] m))
 ·exact k
end Go.Proofs.YtkenfaengphiiaaGreatDoor.An
namespace Go.Proofs.YtkenfaengphiiaaGreatDoor.Nc
open Go Go.Proofs.YtkenfaengphiiaaGreatDoor.An
open Go.Proofs.YtkenfaengphiiaaGreatDoor.Ev hiding mn zfC neg_eq zmJ sub_eq
theorem In.sinh1 {n:I64} (hb: -1152921504606846976<n.val/\n.val<1152921504606846976):In (shy (fx n.val)) (zgS n):=by
 have e:(Rng.w .i64 (0-n.val)).val= -n.val:=by rw [wi (by omega) (by omega)];omega
 have h1:=In.expAt (n:=n)
 have h2:=In.expAt (n:= .w .i64 (0-n.val))
 rw [e,zeR] at h2
 simp only [zgS,zkX,Tr.get]
 exact (h1.sub h2).hlf
theorem In.sinh {x:Re} {a:Iv} (h:In x a):In (shy x) (zhq a):=by
 simp only [zhq,zmD,Tr.get]
 cases ha:ze a
 ·exact In.whole _
 ·simp only [Bool.not_true,cfl]
  obtain ⟨h1,h2⟩:=h ha
  have b:=(zbC a).1 ha
  refine In.zzb fun o1 o2=>?_
  exact ⟨le_trans (In.sinh1 (n:=a.lo) (by omega) o1).1 (zzO h1),le_trans (zzO h2) (In.sinh1 (n:=a.hi) (by omega) o2).2⟩
theorem In.asinh1 {n:I64} (h0:0<=n.val):In (ash (fx n.val)) (zcE n):=by
 have hat:In (fx n.val) (zc6 n):=by
  rw [at_eq];simp only [zbq,zhk,Tr.get];exact In.point
 by_cases h:n.val<=35184372088832
 ·have hd:decide (n.val<=35184372088832)=true:=by simpa using h
  simp only [zcE,zeA,Tr.get,hd,ctr,zCY,add_eq,zu1,zpZ,zdZ]
  exact (hat.add ((hat.sqr.add In.one).sqrt)).log
 ·have hd:decide (n.val<=35184372088832)=false:=by simpa using h
  simp only [zcE,zeA,Tr.get,hd,cfl,zvB,zrQ,add_eq]
  have big:rat 8192<=fx n.val:=by
   have:=zer.2 (show (35184372088832:Int)<=n.val by omega)
   rw [show fx 35184372088832=rat 8192 from by show rat 35184372088832*rat (1/4294967296)=_;exact An.ring []] at this
   exact this
  obtain ⟨f1,f2⟩:=zIb big
  have l2:=In.log2 (k:=⟨1,rfl⟩) (by decide) (by decide)
  rw [show zi (⟨1,rfl⟩:I64).val*An.log 2=An.log 2 from one_mul _] at l2
  have e16:In (ash (fx n.val)-(An.log 2+An.log (fx n.val))) ⟨⟨0,rfl⟩,⟨16,rfl⟩⟩:=fun _=>by
   refine ⟨by show fx 0<=_;rw [fx_0];exact f1,?_⟩
   show _<=fx 16
   rw [show fx 16=rat (1/268435456) from by show rat 16*rat (1/4294967296)=_;exact An.ring []]
   exact f2
  have key:=(l2.add (In.logAt (n:=n) (by omega))).add e16
  rw [show ash (fx n.val)=An.log 2+An.log (fx n.val)+(ash (fx n.val)-(An.log 2+An.log (fx n.val))) from by
   generalize ash (fx n.val)=p;generalize An.log 2=q;generalize An.log (fx n.val)=r;exact An.ring [p,q,r]]
  exact key
theorem In.asinhN {n:I64} (hb: -1152921504606846976<n.val):In (ash (fx n.val)) (zaN n ⟨⟩):=by
 by_cases hn:n.val<0
 ·have hd:decide (n.val<0)=true:=by simpa using hn
  have e1:(Rng.w .i64 (0-n.val)).val=0-n.val:=wi (by omega) (by omega)
  simp only [zaN,zcp,Tr.get,hd,ctr,Ev.neg_eq]
  have k:=(In.asinh1 (n:= .w .i64 (0-n.val)) (by omega)).neg
  rw [e1,zAs,fx_0,show (0:Re)-fx n.val= - fx n.val from by generalize fx n.val=a;exact An.ring [a],zzp] at k
  rw [show ash (fx n.val)= - -ash (fx n.val) from by generalize ash (fx n.val)=a;exact An.ring [a]];exact k
 ·have hd:decide (n.val<0)=false:=by simpa using hn
  simp only [zaN,zcp,Tr.get,hd,cfl]
  exact In.asinh1 (by omega)
theorem zBB (x:Iv):zbY x=bif !ze x then zt else zds (zaN x.lo ⟨⟩) (zaN x.hi ⟨⟩):=by
 refine Tr.zao ?_
 simp only [zju,Tr.opt]
 cases h:ze x
 ·rfl
 have hb:=(zbC x).1 h
 have a1:=zvV x.lo (by omega)
 have a2:=zvV x.hi (by omega)
 have g1:zcd x.lo=true:=by unfold zcd;rw [a1];rfl
 have g2:zcd x.hi=true:=by unfold zcd;rw [a2];rfl
 have f1:zeG x.lo=_:=Tr.zao a1
 have f2:zeG x.hi=_:=Tr.zao a2
 simp only [Bool.not_true,cond_false,cond_true,g1,g2,f1,f2]
theorem In.asinh {x:Re} {a:Iv} (h:In x a):In (ash x) (zbY a):=by
 rw [zBB]
 cases ha:ze a
 ·exact In.whole _
 ·simp only [Bool.not_true,cfl]
  obtain ⟨h1,h2⟩:=h ha
  have b:=(zbC a).1 ha
  refine In.zzb fun o1 o2=>?_
  exact ⟨le_trans (In.asinhN (n:=a.lo) (by omega) o1).1 (zAQ h1),le_trans (zAQ h2) (In.asinhN (n:=a.hi) (by omega) o2).2⟩
theorem In.tan {x t:Re} {a:Iv} (h:In x a) (h1: -hp<x) (h2:x<hp) (e:An.sin x=t*An.cos x):In t (zdc a):=by
 rw [<- zBW]
 unfold zbQ
 rw [zvJ,zbB]
 cases hf:zcx a
 ·exact In.whole _
 simp only [Bool.not_true,cfl]
 have hfit:ze a=true/\(-1099511627776<=a.lo.val/\a.lo.val<=1099511627776)/\(-1099511627776<=a.hi.val/\a.hi.val<=1099511627776):=by
  simp only [zcx,ziv,Tr.get,zgD,zgx,za5,zev,zcO] at hf
  revert hf
  cases ze a<;>by_cases c1: -1099511627776<=a.lo.val/\a.lo.val<=1099511627776<;>by_cases c2: -1099511627776<=a.hi.val/\a.hi.val<=1099511627776<;>simp [c1,c2,ctr,cfl]
 obtain ⟨oa,⟨l1,l2⟩,⟨u1,u2⟩⟩:=hfit
 cases hany:(zhg a 1000 (k0 a)).any odd1
 case true=>simp only [ctr];exact In.whole _
 simp only [cfl,endN,zmS,zmi,zzN,zAI]
 obtain ⟨g1,g2⟩:=h oa
 have kb:=k_bd a
 have q0:(k0 a).val=(a.lo.val+3373259426)/6746518852-1:=by
  have qb:=zif a.lo
  unfold k0;rw [zeB,wi (by omega) (by omega),zlR ⟨l1,l2⟩]
 have q1:(k1 a).val=(a.hi.val+3373259426)/6746518852+1:=by
  have qb:=zif a.hi
  unfold k1;rw [zeB,wi (by omega) (by omega),zlR ⟨u1,u2⟩]
 have mem:∀j:Int,j=1\/j= -1->¬(fx a.lo.val<=qt j/\qt j<=fx a.hi.val):=fun j hj ⟨j1,j2⟩=>by
  have w1:=zG1 j1
  have w2:=zIG j2
  have ek:(Rng.w .i64 j).val=j:=wi (by omega) (by omega)
  obtain ⟨t1,t2,t3⟩:=In.turn (k:= .w .i64 j) (by omega) (by omega)
  rw [ek] at t2 t3
  have m:=zxq a (.w .i64 j) (by omega) (zt7 t1 oa (zer.1 (le_trans t2 j2)) (zer.1 (le_trans j1 t3))) (by omega) 1000 (k0 a) (by omega) (by omega) (by omega)
  have o:odd1 (.w .i64 j)=true:=by rcases hj with rfl|rfl<;>decide +kernel
  have:=List.any_eq_true.2 ⟨_,m,o⟩
  rw [hany] at this;cases this
 have b2:fx a.hi.val<hp:=by
  rcases lt_or_le (fx a.hi.val) hp with k|k
  ·exact k
  ·exact absurd ⟨by rw [qt_1];exact le_trans g1 (le_of_lt h2),by rw [qt_1];exact k⟩ (mem 1 (.inl rfl))
 have b1: -hp<fx a.lo.val:=by
  have e1:qt (-1)= -hp:=by rw [zw7,qt_1]
  rcases lt_or_le (-hp) (fx a.lo.val) with k|k
  ·exact k
  ·exact absurd ⟨by rw [e1];exact k,by rw [e1];exact le_trans (le_of_lt h1) g2⟩ (mem (-1) (.inr rfl))
 have c1:=zl0 b1 (lt_of_le_of_lt g1 h2)
 have c2:=zl0 (lt_of_lt_of_le h1 g2) b2
 have i1:=(In.sinAt (n:=a.lo)).div (In.cosAt (n:=a.lo))
 have i2:=(In.sinAt (n:=a.hi)).div (In.cosAt (n:=a.hi))
 exact In.between (In.hull_l i1) (In.hull_r i2) (zzK g1 b1 h2 (div_mul (ne_of_gt c1)).symm e) (zzK g2 h1 b2 e (div_mul (ne_of_gt c2)).symm)
end Go.Proofs.YtkenfaengphiiaaGreatDoor.Nc
namespace Go.Proofs.YtkenfaengphiiaaGreatDoor.Nc
open Go Go.Proofs.YtkenfaengphiiaaGreatDoor.An
open Go.Proofs.YtkenfaengphiiaaGreatDoor.Ev hiding mn zfC neg_eq zmJ sub_eq
theorem zm8 (n:I64):(∃j:Int,n.val=(zbn n).val+3600000000*j) /\ -1799999999<=(zbn n).val/\(zbn n).val<=1800000000:=by
 simp only [zbn,zgE,Tr.get]
 have hq:=Int.mul_tdiv_add_tmod n.val 3600000000
 generalize hT:Int.tmod n.val 3600000000=r at *
 generalize Int.tdiv n.val 3600000000=q at *
 have hr: -3600000000<r/\r<3600000000:=by
  rw [<- hT]
  exact ⟨by have:=Int.lt_tmod_of_pos n.val (show (0:Int)<3600000000 by decide);omega,Int.tmod_lt_of_pos n.val (by decide)⟩
 have e1:(Rng.w .i64 r).val=r:=wi (by omega) (by omega)
 simp only [e1]
 by_cases c:r>1800000000
 ·have e2:(Rng.w .i64 (r-3600000000)).val=r-3600000000:=wi (by omega) (by omega)
  have d:¬r-3600000000 <= -1800000000:=by omega
  simp only [e2,c,d,decide_true,decide_false,ctr,cfl]
  exact ⟨⟨q+1,by omega⟩,by omega,by omega⟩
 ·by_cases d:r <= -1800000000
  ·have e2:(Rng.w .i64 (r+3600000000)).val=r+3600000000:=wi (by omega) (by omega)
   simp only [c,d,decide_true,decide_false,ctr,cfl,e2]
   exact ⟨⟨q-1,by omega⟩,by omega,by omega⟩
  ·simp only [c,d,decide_false,cfl,e1]
   exact ⟨⟨q,by omega⟩,by omega,by omega⟩
def lonC (p:Proj) (q:zbk):I64:=zbn (Rng.w .i64 (q.lon.val-p.lon0.val))
theorem zrE {p:Proj} (h:zaH p=true):(1<=p.kind.val/\p.kind.val<=4)/\(-890000000<=p.lat1.val/\p.lat1.val<=890000000)/\(-1799999999<=p.lon0.val/\p.lon0.val<=1800000000):=by
 simp only [zaH,zc9,Tr.get] at h
 cases ho:zb8 p
 ·rw [ho] at h;simp only [cfl] at h;cases h
 ·rw [ho] at h
  simp only [ctr,zcO,decide_eq_true_eq] at h
  refine ⟨h,?_⟩
  simp only [zb8,zkt,Tr.get,zb7,zd4,zcO] at ho
  cases h1:zay ⟨p.lat0,p.lon0⟩
  ·rw [h1] at ho;simp only [Bool.not_false,ctr] at ho;cases ho
  ·rw [h1] at ho
   have hl:=(zlm.1 h1).2
   by_cases h2: -890000000<=p.lat1.val/\p.lat1.val<=890000000
   ·exact ⟨h2,hl⟩
   ·simp only [Bool.not_true,cfl,h2,decide_false,Bool.not_false,ctr] at ho
    cases ho
theorem zF3:Nc.rad 1800000000=An.pi:=by
 show rat ((1800000000:Int):Rat)*(hp*rat (1/900000000))=2*hp
 rw [show ((1800000000:Int):Rat)=1800000000 from rfl];exact An.ring [hp]
theorem zu8 {a b:Int} (h:a<b):Nc.rad a<Nc.rad b:=by
 unfold Nc.rad
 have k:=zwa.2 h
 have p:=hp_p
 generalize zi a=x at *;generalize zi b=y at *
 exact zfU [x,y,hp] (mp (sp k) (mp p (qp (1/900000000))))
theorem zHq (p:Proj) (q:zbk): -An.pi<=Nc.rad (lonC p q).val/\Nc.rad (lonC p q).val<=An.pi:=by
 obtain ⟨_,h1,h2⟩:=zm8 (Rng.w .i64 (q.lon.val-p.lon0.val))
 have a:=zzT h2
 have b:=zzT (show -1800000000<=(zbn (Rng.w .i64 (q.lon.val-p.lon0.val))).val by omega)
 rw [zF3] at a
 rw [zpb,zF3] at b
 exact ⟨b,a⟩
theorem zD2 {a b:Iv} {p:zbk} (h:zay p=true) (ha:In (Nc.rad p.lat.val) a) {j:Int} (hj: -1<=j/\j<=1) (hb:In (Nc.rad (p.lon.val+3600000000*j)) b):zcU a b p=true:=by
 have o1:zo a (zbA p)=true:=by
  rw [zyn h];exact ha.overlap In.rad
 simp only [zcU,ziz,Tr.get,h,o1,Bool.not_true,cfl]
 obtain ⟨_,m1,m2⟩:=zlm.1 h
 cases hp':zaI p
 ·have key:∀c:Int,c=3600000000*j->zo b (zD (Rng.w .i64 (p.lon.val+c)))=true:=fun c hc=>by
   have ew:(Rng.w .i64 (p.lon.val+c)).val=p.lon.val+3600000000*j:=by rw [hc];exact wi (by omega) (by omega)
   have k:=In.rad (n:=Rng.w .i64 (p.lon.val+c))
   rw [ew] at k
   exact hb.overlap k
  have:j= -1\/j=0\/j=1:=by omega
  rcases this with rfl|rfl|rfl
  ·simp only [cfl,key (-3600000000) rfl,ctr,Bool.cond_true_left,Bool.or_true,Bool.true_or]
  ·simp only [cfl,key 0 rfl,ctr,Bool.cond_true_left,Bool.or_true,Bool.true_or]
  ·simp only [cfl,key 3600000000 rfl,ctr,Bool.cond_true_left,Bool.or_true,Bool.true_or]
 ·rfl
theorem In.turnS {x:Re} {k:I64} (h:0<=k.val) (h':k.val<=4096) (h1: -qt k.val<=x) (h2:x<=qt k.val):In x ⟨Rng.w .i64 (0-(zaQ k).hi.val),(zaQ k).hi⟩:=fun _=>by
 obtain ⟨t1,t2,t3⟩:=In.turn (k:=k) (by omega) h'
 rw [(zjf (k:=k) (by omega) h').2] at t1 t3
 have b:=(zbC _).1 t1
 have e:(Rng.w .i64 (0-(zaQ k).hi.val)).val= -(zaQ k).hi.val:=by rw [wi (by omega) (by omega)];omega
 refine ⟨?_,le_trans h2 t3⟩
 rw [e,zeR]
 generalize fx (zaQ k).hi.val=a at *;generalize qt k.val=c at *
 exact zU [a,c,x] (pn (sn h1) (sn t3))
theorem zFD {p:Proj} {a b:Iv} {φ l:Re} (ha:In φ a) (hb:In l b) (f1: -hp<=φ) (f2:φ<=hp) (l1: -An.pi<=l) (l2:l<=An.pi):
  (za6 p a b).c.val=9\/((za6 p a b).c.val=0/\In φ (za6 p a b).a/\In (l+Nc.rad p.lon0.val) (za6 p a b).b):=by
 obtain ⟨g1,_⟩:=zjf (k:=⟨1,rfl⟩) (by decide) (by decide)
 obtain ⟨g2,_⟩:=zjf (k:=⟨2,rfl⟩) (by decide) (by decide)
 have q2:qt 2=An.pi:=rfl
 have o1:=ha.overlap (In.turnS (k:=⟨1,rfl⟩) (by decide) (by decide) (by rw [show (⟨1,rfl⟩:I64).val=1 from rfl,qt_1];exact f1) (by rw [show (⟨1,rfl⟩:I64).val=1 from rfl,qt_1];exact f2))
 have o2:=hb.overlap (In.turnS (k:=⟨2,rfl⟩) (by decide) (by decide) (by rw [show (⟨2,rfl⟩:I64).val=2 from rfl,q2];exact l1) (by rw [show (⟨2,rfl⟩:I64).val=2 from rfl,q2];exact l2))
 have hs:=hb.add (In.rad (n:=p.lon0))
 have key:za6 p a b=bif !(ze a) then ⟨⟨⟨0,rfl⟩,⟨0,rfl⟩⟩,⟨⟨0,rfl⟩,⟨0,rfl⟩⟩,⟨9,rfl⟩⟩ else bif !(ze (zH b (zD p.lon0))) then ⟨⟨⟨0,rfl⟩,⟨0,rfl⟩⟩,⟨⟨0,rfl⟩,⟨0,rfl⟩⟩,⟨9,rfl⟩⟩ else ⟨a,zH b (zD p.lon0),⟨0,rfl⟩⟩:=by
  simp only [za6,zfl,Tr.get,g1,g2,ctr,o1,o2,Bool.not_true,cfl,Bool.cond_self]
 rw [key]
 cases ze a
 ·left;rfl
 cases ze (zH b (zD p.lon0))
 ·left;rfl
 ·exact .inr ⟨rfl,ha,hs⟩
theorem zHK {X Y:Iv} {x y:Re} (hx:In x X) (hy:In y Y):(zbl X Y).b.val=9\/((zbl X Y).b.val=0/\In x (zbl X Y).a.x/\In y (zbl X Y).a.y):=by
 simp only [zbl,zlB,Tr.get]
 cases ze X
 ·left;rfl
 cases ze Y
 ·left;rfl
 ·exact .inr ⟨rfl,hx,hy⟩
def tn (t:Re):Re:=An.sin t/An.cos t
theorem zFR (t:Re):tn (-t)= - tn t:=by
 unfold tn
 rw [zmK,zl1,div_eq,div_eq]
 generalize (An.cos t)⁻¹=i;generalize An.sin t=s
 exact An.ring [s,i]
theorem zEq {t:Re} (h1: -hp<t) (h2:t<hp):An.sin t=tn t*An.cos t:=(div_mul (ne_of_gt (zl0 h1 h2))).symm
def cc (p:Proj):Re:=An.cos (Nc.rad p.lat1.val)
def cx (p:Proj) (q:zbk):Re:=if p.kind.val=1\/p.kind.val=3 then Nc.rad (lonC p q).val*cc p else Nc.rad (lonC p q).val
def cyl (p:Proj) (t:Re):Re:=if p.kind.val=1 then t else if p.kind.val=2 then ash (tn t) else if p.kind.val=3 then An.sin t/cc p else rat (5/4)*ash (tn (rat (4/5)*t))
theorem zHY (p:Proj) (t:Re):cyl p (-t)= - cyl p t:=by
 unfold cyl
 by_cases h1:p.kind.val=1
 ·simp only [h1,if_true]
 by_cases h2:p.kind.val=2
 ·simp only [h1,h2,if_true,if_false]
  rw [if_neg (by decide),if_neg (by decide),zFR,zzp]
 by_cases h3:p.kind.val=3
 ·rw [if_neg h1,if_neg h2,if_pos h3,if_neg h1,if_neg h2,if_pos h3,zmK,div_eq,div_eq]
  generalize (cc p)⁻¹=i;generalize An.sin t=s
  exact An.ring [s,i]
 ·rw [if_neg h1,if_neg h2,if_neg h3,if_neg h1,if_neg h2,if_neg h3,show rat (4/5) * -t= -(rat (4/5)*t) from An.ring [t],zFR,zzp]
  generalize ash (tn (rat (4/5)*t))=a
  exact An.ring [a]
theorem cc_p {p:Proj} (h:zaH p=true):0<cc p:=by
 obtain ⟨_,⟨h1,h2⟩,_⟩:=zrE h
 refine zl0 ?_ ?_
 ·have:=zu8 (show -900000000<p.lat1.val by omega);rwa [zpb,zBc] at this
 ·have:=zu8 (show p.lat1.val<900000000 by omega);rwa [zBc] at this
theorem In.cc (p:Proj):In (cc p) (zbN (zD p.lat1)):=(In.rad (n:=p.lat1)).cos
theorem In.lonC (p:Proj) (q:zbk):In (Nc.rad (lonC p q).val) (zbc p q):=by
 simp only [zbc,zlA,Tr.get];exact In.rad
theorem In.q54:In (rat (5/4)) (zK ⟨5,rfl⟩ ⟨4,rfl⟩):=by
 have hz:zi (⟨4,rfl⟩:I64).val≠0:=ne_of_gt (zwa.2 (show (0:Int)<4 by decide))
 have e:zi (⟨5,rfl⟩:I64).val/zi (⟨4,rfl⟩:I64).val=rat (5/4):=by
  refine zgN hz ?_
  rw [div_mul hz]
  show rat 5=rat (5/4)*rat 4
  exact An.ring []
 rw [<- e]
 exact In.quotient (by decide)
theorem In.q45:In (rat (4/5)) (zK ⟨4,rfl⟩ ⟨5,rfl⟩):=by
 have hz:zi (⟨5,rfl⟩:I64).val≠0:=ne_of_gt (zwa.2 (show (0:Int)<5 by decide))
 have e:zi (⟨4,rfl⟩:I64).val/zi (⟨5,rfl⟩:I64).val=rat (4/5):=by
  refine zgN hz ?_
  rw [div_mul hz]
  show rat 4=rat (4/5)*rat 5
  exact An.ring []
 rw [<- e]
 exact In.quotient (by decide)
theorem zug {q:zbk} (h:zay q=true) (hn:zaI q=false): -hp<Nc.rad q.lat.val/\Nc.rad q.lat.val<hp:=by
 obtain ⟨⟨l1,l2⟩,_⟩:=zlm.1 h
 have n:¬q.lat.val=900000000/\¬q.lat.val= -900000000:=by
  refine ⟨fun e=>?_,fun e=>?_⟩<;>simp [zaI,zeh,Tr.get,e] at hn
 have a:=zu8 (show q.lat.val<900000000 by omega)
 have b:=zu8 (show -900000000<q.lat.val by omega)
 rw [zBc] at a
 rw [zpb,zBc] at b
 exact ⟨b,a⟩
theorem zEO {q:zbk} (h:zaI q=true):q.lat.val=900000000\/q.lat.val= -900000000:=by
 simp only [zaI,zeh,Tr.get] at h
 by_cases e:q.lat.val=900000000
 ·exact .inl e
 ·right
  have:(q.lat.val==900000000)=false:=by simpa using e
  rw [this] at h
  simpa [cfl] using h
theorem zxl {t:Re} (h1: -hp<=t) (h2:t<=hp): -hp<rat (4/5)*t/\rat (4/5)*t<hp:=by
 have p:=hp_p
 generalize hp=P at *
 exact ⟨zfU [t,P] (ppn (mp (qp (1/5)) p) (kn (4/5) (sn h1))),zfU [t,P] (ppn (mp (qp (1/5)) p) (kn (4/5) (sn h2)))⟩
theorem b11:((1:Int)==1)=true:=rfl
theorem b21:((2:Int)==1)=false:=rfl
theorem b22:((2:Int)==2)=true:=rfl
theorem b41:((4:Int)==1)=false:=rfl
theorem b42:((4:Int)==2)=false:=rfl
theorem b43:((4:Int)==3)=false:=rfl
theorem In.cyl {p:Proj} (hk:1<=p.kind.val/\p.kind.val<=4) {t:Re} {T:Iv} (h:In t T) (h1: -hp<=t) (h2:t<=hp) (hs:p.kind.val=2-> -hp<t/\t<hp):
  In (cyl p t) (bif p.kind.val==1 then T else bif p.kind.val==2 then zbY (zdc T) else bif p.kind.val==3 then zO (ze5 T) (zbN (zD p.lat1)) else zz (zK ⟨5,rfl⟩ ⟨4,rfl⟩) (zbY (zdc (zz (zK ⟨4,rfl⟩ ⟨5,rfl⟩) T)))):=by
 unfold Nc.cyl
 have:p.kind.val=1\/p.kind.val=2\/p.kind.val=3\/p.kind.val=4:=by omega
 rcases this with e|e|e|e
 ·rw [e];exact h
 ·rw [e]
  obtain ⟨s1,s2⟩:=hs e
  exact (In.tan h s1 s2 (zEq s1 s2)).asinh
 ·rw [e];exact h.sin.div (In.cc p)
 ·rw [e,if_neg (by decide),if_neg (by decide),if_neg (by decide),b41,b42,b43,cfl,cfl,cfl]
  obtain ⟨s1,s2⟩:=zxl h1 h2
  exact In.q54.mul (In.tan (In.q45.mul h) s1 s2 (zEq s1 s2)).asinh
theorem In.cx (p:Proj) (q:zbk):In (cx p q) (bif p.kind.val==1 then zz (zbc p q) (zbN (zD p.lat1)) else bif p.kind.val==2 then zbc p q else bif p.kind.val==3 then zz (zbc p q) (zbN (zD p.lat1)) else zbc p q):=by
 unfold Nc.cx
 by_cases h1:p.kind.val=1
 ·rw [h1];exact (In.lonC p q).mul (In.cc p)
 by_cases h3:p.kind.val=3
 ·rw [h3];exact (In.lonC p q).mul (In.cc p)
 ·rw [if_neg (by omega),show (p.kind.val==1)=false by simpa using h1,show (p.kind.val==3)=false by simpa using h3]
  simp only [cfl,Bool.cond_self];exact In.lonC p q
theorem zy7 {p:Proj} {q:zbk} (hc:zaH p=true) (hq:zay q=true):
  ((zP p q).b.val=8/\p.kind.val=2/\zaI q=true)\/(zP p q).b.val=9 \/
  ((zP p q).b.val=0/\(p.kind.val=2->zaI q=false)/\In (Nc.cx p q) (zP p q).a.x/\In (Nc.cyl p (Nc.rad q.lat.val)) (zP p q).a.y):=by
 obtain ⟨hk,_⟩:=zrE hc
 obtain ⟨b1,b2⟩:=zIZ hq
 by_cases hm:p.kind.val=2/\zaI q=true
 ·left
  refine ⟨?_,hm⟩
  simp only [zP,zdQ,Tr.get,hc,hq,Bool.not_true,cfl,hm.1,hm.2,ctr]
  rfl
 ·right
  have hs:p.kind.val=2->zaI q=false:=fun e=>by
   cases h:zaI q
   ·rfl
   ·exact absurd ⟨e,h⟩ hm
  have key:zP p q=⟨(zbl (bif p.kind.val==1 then zz (zbc p q) (zbN (zD p.lat1)) else bif p.kind.val==2 then zbc p q else bif p.kind.val==3 then zz (zbc p q) (zbN (zD p.lat1)) else zbc p q)
    (bif p.kind.val==1 then zbA q else bif p.kind.val==2 then zbY (zdc (zbA q)) else bif p.kind.val==3 then zO (ze5 (zbA q)) (zbN (zD p.lat1)) else zz (zK ⟨5,rfl⟩ ⟨4,rfl⟩) (zbY (zdc (zz (zK ⟨4,rfl⟩ ⟨5,rfl⟩) (zbA q)))))).a,
    (zbl (bif p.kind.val==1 then zz (zbc p q) (zbN (zD p.lat1)) else bif p.kind.val==2 then zbc p q else bif p.kind.val==3 then zz (zbc p q) (zbN (zD p.lat1)) else zbc p q)
    (bif p.kind.val==1 then zbA q else bif p.kind.val==2 then zbY (zdc (zbA q)) else bif p.kind.val==3 then zO (ze5 (zbA q)) (zbN (zD p.lat1)) else zz (zK ⟨5,rfl⟩ ⟨4,rfl⟩) (zbY (zdc (zz (zK ⟨4,rfl⟩ ⟨5,rfl⟩) (zbA q)))))).b⟩:=by
   simp only [zP,zdQ,Tr.get,hc,hq,Bool.not_true,cfl]
   have:p.kind.val=1\/p.kind.val=2\/p.kind.val=3\/p.kind.val=4:=by omega
   rcases this with e|e|e|e
   ·rw [e];rfl
   ·rw [e,hs e];rfl
   ·rw [e];rfl
   ·rw [e];simp only [b41,b42,b43,cfl]
  have hlat:In (Nc.rad q.lat.val) (zbA q):=by rw [zyn hq];exact In.rad
  have:=zHK (In.cx p q) (In.cyl hk hlat b1 b2 (fun e=>zug hq (hs e)))
  rw [key]
  rcases this with h|⟨h1,h2,h3⟩
  ·exact .inl h
  ·exact .inr ⟨h1,hs,h2,h3⟩
theorem zHz {p:Proj} {q:zbk} {A:zfV} (hc:zaH p=true) (hq:zay q=true) (hs:p.kind.val=2->zaI q=false)
  (hx:In (Nc.cx p q) A.x) (hy:In (Nc.cyl p (Nc.rad q.lat.val)) A.y):
  (zaK p A).c.val=9\/((zaK p A).c.val=0/\zcU (zaK p A).a (zaK p A).b q=true):=by
 obtain ⟨hk,_,l1,l2⟩:=zrE hc
 obtain ⟨b1,b2⟩:=zIZ hq
 obtain ⟨c1,c2⟩:=zHq p q
 have cp:=cc_p hc
 obtain ⟨_,m1,m2⟩:=zlm.1 hq
 -- the longitude comes back
 have lonx:∃j:Int,(-1<=j/\j<=1)/\Nc.rad (lonC p q).val+Nc.rad p.lon0.val=Nc.rad (q.lon.val+3600000000*j):=by
  have e:(Rng.w .i64 (q.lon.val-p.lon0.val)).val=q.lon.val-p.lon0.val:=wi (by omega) (by omega)
  obtain ⟨⟨j,hj⟩,w1,w2⟩:=zm8 (Rng.w .i64 (q.lon.val-p.lon0.val))
  rw [e] at hj
  refine ⟨-j,by omega,?_⟩
  rw [<- zCl]
  congr 1
  unfold Nc.lonC
  omega
 obtain ⟨j,hj,lj⟩:=lonx
 have fin:∀ {a b:Iv},In (Nc.rad q.lat.val) a->In (Nc.rad (lonC p q).val) b->(za6 p a b).c.val=9\/((za6 p a b).c.val=0/\zcU (za6 p a b).a (za6 p a b).b q=true):=fun {a b} ha hb=>by
  rcases zFD (p:=p) ha hb b1 b2 c1 c2 with h|⟨h1,h2,h3⟩
  ·exact .inl h
  ·rw [lj] at h3
   exact .inr ⟨h1,zD2 hq h2 hj h3⟩
 obtain ⟨g1,_⟩:=zjf (k:=⟨1,rfl⟩) (by decide) (by decide)
 obtain ⟨g2,_⟩:=zjf (k:=⟨2,rfl⟩) (by decide) (by decide)
 have G:∀(x y:Iv),zcQ p x y=true:=fun x y=>by
  unfold zcQ
  simp only [zfl,Tr.opt,g1,g2,ctr]
  repeat' (first|rfl|refine zmU _ _ _ ?_ ?_)
 simp only [zaK,zfw,Tr.get,hc,Bool.not_true,cfl,G,ctr]
 unfold Nc.cx at hx
 unfold Nc.cyl at hy
 have:p.kind.val=1\/p.kind.val=2\/p.kind.val=3\/p.kind.val=4:=by omega
 have dv:∀l:Re,l*Nc.cc p/Nc.cc p=l:=fun l=>zgN (ne_of_gt cp) (div_mul (ne_of_gt cp))
 rcases this with e|e|e|e
 ·rw [e] at hx hy
  rw [if_pos (.inl rfl)] at hx
  rw [if_pos rfl] at hy
  rw [e]
  simp only [b11,ctr]
  have k:=hx.div (In.cc p)
  rw [dv] at k
  exact fin hy k
 ·rw [e] at hx hy
  rw [if_neg (by decide)] at hx
  rw [if_neg (by decide),if_pos rfl] at hy
  rw [e]
  simp only [b21,b22,ctr,cfl]
  obtain ⟨s1,s2⟩:=zug hq (hs e)
  have k:=hy.sinh.atan
  rw [zu4,<- zhh s1 s2 (zEq s1 s2)] at k
  exact fin k hx
 ·rw [e] at hx hy
  rw [if_pos (.inr rfl)] at hx
  rw [if_neg (by decide),if_neg (by decide),if_pos rfl] at hy
  rw [e]
  have k:=hx.div (In.cc p)
  rw [dv] at k
  have ks:=hy.mul (In.cc p)
  rw [div_mul (ne_of_gt cp)] at ks
  obtain ⟨i1,i2⟩:=zB9 (Nc.rad q.lat.val)
  have ov:=ks.overlap (In.ring i1 i2)
  have ka:=ks.asin i1 i2
  rw [zFH b1 b2] at ka
  have r:=fin ka k
  generalize zz A.y (zbN (zD p.lat1))=S at *
  rw [ov]
  cases ze S<;>exact r
 ·rw [e] at hx hy
  rw [if_neg (by decide)] at hx
  rw [if_neg (by decide),if_neg (by decide),if_neg (by decide)] at hy
  rw [e]
  simp only [b41,b42,b43,cfl]
  obtain ⟨s1,s2⟩:=zxl b1 b2
  have k:=In.q54.mul (In.q45.mul hy).sinh.atan
  have e1:rat (4/5)*(rat (5/4)*ash (tn (rat (4/5)*Nc.rad q.lat.val)))=ash (tn (rat (4/5)*Nc.rad q.lat.val)):=by
   generalize ash (tn (rat (4/5)*Nc.rad q.lat.val))=u;exact An.ring [u]
  rw [e1,zu4,<- zhh s1 s2 (zEq s1 s2)] at k
  have e2:rat (5/4)*(rat (4/5)*Nc.rad q.lat.val)=Nc.rad q.lat.val:=by
   generalize Nc.rad q.lat.val=u;exact An.ring [u]
  rw [e2] at k
  exact fin k hx
def twin (p:Proj) (q:zbk):zbk:=⟨q.lat,zbn (Rng.w .i64 ((Rng.w .i64 (2*q.lon.val)).val-p.lon0.val))⟩
def mirr (q:zbk):zbk:=⟨Rng.w .i64 (0-q.lat.val),q.lon⟩
theorem zGE {p:Proj} {q:zbk} (h:zay q=true):zay (twin p q)=true/\zaI (twin p q)=zaI q:=by
 obtain ⟨l,_⟩:=zlm.1 h
 obtain ⟨_,w1,w2⟩:=zm8 (Rng.w .i64 ((Rng.w .i64 (2*q.lon.val)).val-p.lon0.val))
 exact ⟨zlm.2 ⟨l,w1,w2⟩,rfl⟩
theorem zHl {q:zbk} (h:zay q=true):zay (mirr q)=true/\zaI (mirr q)=zaI q/\Nc.rad (mirr q).lat.val= - Nc.rad q.lat.val:=by
 obtain ⟨⟨l1,l2⟩,l⟩:=zlm.1 h
 have ea:(Rng.w .i64 (0-q.lat.val)).val= -q.lat.val:=by rw [wi (by omega) (by omega)];omega
 refine ⟨zlm.2 ⟨by simp only [mirr,ea];omega,l⟩,?_,by simp only [mirr,ea,zpb]⟩
 simp only [zaI,zeh,Tr.get,mirr,ea]
 by_cases a:q.lat.val=900000000
 ·simp [a]
 ·by_cases b:q.lat.val= -900000000
  ·simp [b]
  ·have a':¬ -q.lat.val= -900000000:=by omega
   have b':¬ -q.lat.val=900000000:=by omega
   rw [Bool.eq_iff_iff];simp;omega
theorem zEp {p:Proj} {q:zbk} (hc:zaH p=true) (hq:zay q=true) (h1: -900000000<(lonC p q).val) (h2:(lonC p q).val<900000000):(lonC p (twin p q)).val=2*(lonC p q).val:=by
 obtain ⟨_,_,l1,l2⟩:=zrE hc
 obtain ⟨_,m1,m2⟩:=zlm.1 hq
 have e0:(Rng.w .i64 (2*q.lon.val)).val=2*q.lon.val:=wi (by omega) (by omega)
 have e1:(Rng.w .i64 (q.lon.val-p.lon0.val)).val=q.lon.val-p.lon0.val:=wi (by omega) (by omega)
 have e2:(Rng.w .i64 ((Rng.w .i64 (2*q.lon.val)).val-p.lon0.val)).val=2*q.lon.val-p.lon0.val:=by rw [e0];exact wi (by omega) (by omega)
 unfold lonC at h1 h2
 obtain ⟨⟨j1,a1⟩,a2,a3⟩:=zm8 (Rng.w .i64 (q.lon.val-p.lon0.val))
 obtain ⟨⟨j2,d1⟩,d2,d3⟩:=zm8 (Rng.w .i64 ((Rng.w .i64 (2*q.lon.val)).val-p.lon0.val))
 rw [e1] at a1
 rw [e2] at d1
 unfold lonC twin
 simp only
 generalize zbn (Rng.w .i64 ((Rng.w .i64 (2*q.lon.val)).val-p.lon0.val))=w at *
 have e3:(Rng.w .i64 (w.val-p.lon0.val)).val=w.val-p.lon0.val:=wi (by omega) (by omega)
 obtain ⟨⟨j3,f1⟩,f2,f3⟩:=zm8 (Rng.w .i64 (w.val-p.lon0.val))
 rw [e3] at f1
 omega
theorem zIp {p:Proj} {q:zbk} (hc:zaH p=true) (hq:zay q=true) (h1: -900000000<(lonC p q).val) (h2:(lonC p q).val<900000000):Nc.cx p (twin p q)=2*Nc.cx p q:=by
 have e:Nc.rad (lonC p (twin p q)).val=2*Nc.rad (lonC p q).val:=by
  rw [zEp hc hq h1 h2,show 2*(lonC p q).val=(lonC p q).val+(lonC p q).val by omega,zCl]
  generalize Nc.rad (lonC p q).val=a;exact An.ring [a]
 unfold Nc.cx
 rw [e]
 split
 ·generalize Nc.rad (lonC p q).val=a;generalize Nc.cc p=b;exact An.ring [a,b]
 ·rfl
theorem zHZ {p:Proj} {q:zbk} (hc:zaH p=true) (hq:zay q=true):
  ((zP p q).b.val=8/\(q.lat.val=900000000\/q.lat.val= -900000000))\/(zP p q).b.val=9 \/
  ((zP p q).b.val=0 /\
   ((zaK p (zP p q).a).c.val=9\/((zaK p (zP p q).a).c.val=0/\zcU (zaK p (zP p q).a).a (zaK p (zP p q).a).b q=true)) /\
   ((zP p (twin p q)).b.val=9\/((zP p (twin p q)).b.val=0 /\
    (-900000000<(lonC p q).val->(lonC p q).val<900000000->zo (zP p (twin p q)).a.x (zz (zy ⟨2,rfl⟩) (zP p q).a.x)=true))) /\
   ((zP p (mirr q)).b.val=9\/((zP p (mirr q)).b.val=0 /\
    zo (zP p (mirr q)).a.y (zW (zP p q).a.y)=true/\zo (zP p (mirr q)).a.x (zP p q).a.x=true))):=by
 rcases zy7 hc hq with ⟨a,_,b⟩|a|⟨a,hs,hx,hy⟩
 ·exact .inl ⟨a,zEO b⟩
 ·exact .inr (.inl a)
 ·refine .inr (.inr ⟨a,zHz hc hq hs hx hy,?_,?_⟩)
  ·obtain ⟨t1,t2⟩:=zGE (p:=p) hq
   rcases zy7 hc t1 with ⟨_,b1,b2⟩|b|⟨b,_,bx,_⟩
   ·rw [t2,hs b1] at b2;cases b2
   ·exact .inl b
   ·refine .inr ⟨b,fun h1 h2=>?_⟩
    rw [zIp hc hq h1 h2] at bx
    exact bx.overlap ((In.int (n:=⟨2,rfl⟩) (by decide)).mul hx)
  ·obtain ⟨t1,t2,t3⟩:=zHl hq
   rcases zy7 hc t1 with ⟨_,b1,b2⟩|b|⟨b,_,bx,bY⟩
   ·rw [t2,hs b1] at b2;cases b2
   ·exact .inl b
   ·refine .inr ⟨b,?_,bx.overlap hx⟩
    rw [t3,zHY] at bY
    exact bY.overlap hy.neg
end Go.Proofs.YtkenfaengphiiaaGreatDoor.Nc
