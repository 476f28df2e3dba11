/- The law FnLocal gives true, whatever bytes come in, where the listed tables hold what the program's text lays. The card: the tables tied to the text. No other conditions. (One of the texts of its proof, put together by a program of this session.) -/
import Derived.KernelRfl
set_option linter.unusedSectionVars false
set_option linter.unusedSimpArgs false
set_option linter.unusedVariables false
noncomputable section
namespace Go.Proofs.YtlolpmmloolieaaGreatDoor.An
def Cau (s:Nat->Rat):Prop:=∀e:Rat,0<e->∃N,∀m n,N<=m->N<=n->s m-s n<e
def Nul (s:Nat->Rat):Prop:=∀e:Rat,0<e->∃N,∀n,N<=n-> -e<s n/\s n<e
def Pos (s:Nat->Rat):Prop:=∃e:Rat,0<e/\∃N,∀n,N<=n->e<s n
theorem zev {e:Rat} (h:0<e):0<e/2:=by grind
theorem div_pos {a b:Rat} (h:0<a) (k:0<b):0<a/b:=by
 rw [Rat.div_def];exact Rat.mul_pos h (Rat.inv_pos.2 k)
theorem zfG {a x B d:Rat} (h1: -B<a) (h2:a<B) (h3: -d<x) (h4:x<d): -(B*d)<a*x/\a*x<B*d:=by
 have p1:0<(B-a)*(d+x):=Rat.mul_pos (by grind) (by grind)
 have p2:0<(B+a)*(d-x):=Rat.mul_pos (by grind) (by grind)
 have p3:0<(B-a)*(d-x):=Rat.mul_pos (by grind) (by grind)
 have p4:0<(B+a)*(d+x):=Rat.mul_pos (by grind) (by grind)
 constructor<;>grind
theorem mul_bd' {a x B d:Rat} (h1: -B<a) (h2:a<B) (h3: -d<x) (h4:x<d): -(B*d)<x*a/\x*a<B*d:=by
 have:=zfG h1 h2 h3 h4;rwa [Rat.mul_comm x a]
theorem bdd_to (s:Nat->Rat) (N:Nat):∃B:Rat,0<B/\∀n,n<N-> -B<s n/\s n<B:=by
 induction N with
 | zero=>exact ⟨1,by decide,fun n h=>absurd h (Nat.not_lt_zero n)⟩
 | succ N ih=>
  obtain ⟨B,h0,h⟩:=ih
  have key:∃C:Rat,0<C/\B<=C /\ -C<s N/\s N<C:=by
   rcases Rat.le_total (a:=0) (b:=s N) with k|k
   ·exact ⟨B+s N,by grind,by grind,by grind,by grind⟩
   ·exact ⟨B-s N,by grind,by grind,by grind,by grind⟩
  obtain ⟨C,c0,cB,c1,c2⟩:=key
  refine ⟨C,c0,fun n hn=>?_⟩
  rcases Nat.lt_succ_iff_lt_or_eq.1 hn with k|k
  ·have:=h n k;grind
  ·subst k;exact ⟨c1,c2⟩
theorem Cau.bdd {s:Nat->Rat} (h:Cau s):∃B:Rat,0<B/\∀n,-B<s n/\s n<B:=by
 obtain ⟨N,hN⟩:=h 1 (by decide)
 obtain ⟨B,h0,hB⟩:=bdd_to s (N+1)
 refine ⟨B+1,by grind,fun n=>?_⟩
 have b:=hB N (by omega)
 rcases Nat.lt_or_ge n (N+1) with k|k
 ·have:=hB n k;grind
 ·have p:=hN n N (by omega) (by omega)
  have q:=hN N n (by omega) (by omega)
  grind
theorem Cau.add {s t:Nat->Rat} (h:Cau s) (k:Cau t):Cau (fun n=>s n+t n):=by
 intro e he
 obtain ⟨N,hN⟩:=h (e/2) (zev he)
 obtain ⟨M,hM⟩:=k (e/2) (zev he)
 refine ⟨max N M,fun m n hm hn=>?_⟩
 have a:=hN m n (by omega) (by omega)
 have b:=hM m n (by omega) (by omega)
 show (s m+t m)-(s n+t n)<e
 grind
theorem Cau.neg {s:Nat->Rat} (h:Cau s):Cau (fun n=> - s n):=by
 intro e he
 obtain ⟨N,hN⟩:=h e he
 refine ⟨N,fun m n hm hn=>?_⟩
 have a:=hN n m hn hm
 show-s m - - s n<e
 grind
theorem Cau.mul {s t:Nat->Rat} (h:Cau s) (k:Cau t):Cau (fun n=>s n*t n):=by
 intro e he
 obtain ⟨B,b0,hB⟩:=h.bdd
 obtain ⟨C,c0,hC⟩:=k.bdd
 obtain ⟨N,hN⟩:=h (e/2/C) (div_pos (zev he) c0)
 obtain ⟨M,hM⟩:=k (e/2/B) (div_pos (zev he) b0)
 refine ⟨max N M,fun m n hm hn=>?_⟩
 have a1:=hN m n (by omega) (by omega)
 have a2:=hN n m (by omega) (by omega)
 have b1:=hM m n (by omega) (by omega)
 have b2:=hM n m (by omega) (by omega)
 have x:=(zfG (hB m).1 (hB m).2 (x:=t m-t n) (d:=e/2/B) (by grind) b1).2
 have y:=(zfG (hC n).1 (hC n).2 (x:=s m-s n) (d:=e/2/C) (by grind) a1).2
 have z1:B*(e/2/B)=e/2:=by rw [Rat.mul_comm];exact Rat.div_mul_cancel (by grind)
 have z2:C*(e/2/C)=e/2:=by rw [Rat.mul_comm];exact Rat.div_mul_cancel (by grind)
 show s m*t m-s n*t n<e
 grind
theorem Cau.const (q:Rat):Cau (fun _=>q):=fun e he=>⟨0,fun m n _ _=>by show q-q<e;grind⟩
theorem Nul.add {s t:Nat->Rat} (h:Nul s) (k:Nul t):Nul (fun n=>s n+t n):=by
 intro e he
 obtain ⟨N,hN⟩:=h (e/2) (zev he)
 obtain ⟨M,hM⟩:=k (e/2) (zev he)
 refine ⟨max N M,fun n hn=>?_⟩
 have a:=hN n (by omega)
 have b:=hM n (by omega)
 show -e<s n+t n/\s n+t n<e
 grind
theorem Nul.neg {s:Nat->Rat} (h:Nul s):Nul (fun n=> - s n):=by
 intro e he
 obtain ⟨N,hN⟩:=h e he
 refine ⟨N,fun n hn=>?_⟩
 have a:=hN n hn
 show -e < - s n /\ - s n<e
 grind
theorem Nul.mul {s t:Nat->Rat} (h:Nul s) (k:Cau t):Nul (fun n=>s n*t n):=by
 intro e he
 obtain ⟨B,b0,hB⟩:=k.bdd
 obtain ⟨N,hN⟩:=h (e/B) (div_pos he b0)
 refine ⟨N,fun n hn=>?_⟩
 have a:=hN n hn
 have x:=mul_bd' (hB n).1 (hB n).2 a.1 a.2
 have z1:B*(e/B)=e:=by rw [Rat.mul_comm];exact Rat.div_mul_cancel (by grind)
 show -e<s n*t n/\s n*t n<e
 grind
theorem Nul.zero:Nul (fun _=>(0:Rat)):=fun e he=>⟨0,fun n _=>by show -e<0/\0<e;grind⟩
theorem Nul.congr {s t:Nat->Rat} (h:Nul s) (k:∀n,s n=t n):Nul t:=by
 have:s=t:=funext k
 rwa [<- this]
structure CS where
 s:Nat->Rat
 c:Cau s
def Eqv (a b:CS):Prop:=Nul (fun n=>a.s n-b.s n)
theorem Eqv.refl (a:CS):Eqv a a:=Nul.zero.congr (fun n=>by grind)
theorem Eqv.symm {a b:CS} (h:Eqv a b):Eqv b a:=Nul.congr (Nul.neg h) (fun n=>by grind)
theorem Eqv.trans {a b c:CS} (h:Eqv a b) (k:Eqv b c):Eqv a c:=Nul.congr (Nul.add h k) (fun n=>by grind)
instance csd:Setoid CS:=⟨Eqv,Eqv.refl,Eqv.symm,Eqv.trans⟩
def Re:Type:=Quotient csd
def mk (a:CS):Re:=Quotient.mk csd a
theorem mk_eq {a b:CS}:mk a=mk b↔Eqv a b:=⟨fun h=>Quotient.exact h,fun h=>Quotient.sound h⟩
theorem Re.ind {P:Re->Prop} (h:∀a,P (mk a)) (x:Re):P x:=Quotient.ind h x
theorem Re.rep (x:Re):∃a,x=mk a:=Re.ind (P:=fun x=>∃a,x=mk a) (fun a=>⟨a,rfl⟩) x
def CS.add (a b:CS):CS:=⟨fun n=>a.s n+b.s n,a.c.add b.c⟩
def CS.mul (a b:CS):CS:=⟨fun n=>a.s n*b.s n,a.c.mul b.c⟩
def CS.neg (a:CS):CS:=⟨fun n=> - a.s n,a.c.neg⟩
def CS.con (q:Rat):CS:=⟨fun _=>q,Cau.const q⟩
theorem CS.add_eqv {a b c d:CS} (h:Eqv a c) (k:Eqv b d):Eqv (a.add b) (c.add d):=Nul.congr (Nul.add h k) (fun n=>by simp only [CS.add];grind)
theorem CS.neg_eqv {a c:CS} (h:Eqv a c):Eqv a.neg c.neg:=Nul.congr (Nul.neg h) (fun n=>by simp only [CS.neg];grind)
theorem CS.mul_eqv {a b c d:CS} (h:Eqv a c) (k:Eqv b d):Eqv (a.mul b) (c.mul d):=
 Nul.congr (Nul.add (Nul.mul h b.c) (Nul.mul k c.c)) (fun n=>by simp only [CS.mul];grind)
def Re.add (x y:Re):Re:=Quotient.lift₂ (fun a b=>mk (a.add b)) (fun _ _ _ _ h k=>mk_eq.2 (CS.add_eqv h k)) x y
def Re.mul (x y:Re):Re:=Quotient.lift₂ (fun a b=>mk (a.mul b)) (fun _ _ _ _ h k=>mk_eq.2 (CS.mul_eqv h k)) x y
def Re.neg (x:Re):Re:=Quotient.lift (fun a=>mk a.neg) (fun _ _ h=>mk_eq.2 (CS.neg_eqv h)) x
def rat (q:Rat):Re:=mk (CS.con q)
instance:Add Re:=⟨Re.add⟩
instance:Mul Re:=⟨Re.mul⟩
instance:Neg Re:=⟨Re.neg⟩
instance:Sub Re:=⟨fun x y=>x + -y⟩
instance {n:Nat}:OfNat Re n:=⟨rat (OfNat.ofNat n)⟩
theorem sub_eq (x y:Re):x-y=x + -y:=rfl
theorem mk_same {a b:CS} (h:∀n,a.s n=b.s n):mk a=mk b:=mk_eq.2 (Nul.zero.congr (fun n=>by rw [h n];grind))
theorem add_comm (x y:Re):x+y=y+x:=by
 revert x y;refine Re.ind fun a=>Re.ind fun b=>?_
 exact mk_same fun n=>by simp only [CS.add];grind
theorem add_assoc (x y z:Re):x+y+z=x+(y+z):=by
 revert x y z;refine Re.ind fun a=>Re.ind fun b=>Re.ind fun c=>?_
 exact mk_same fun n=>by simp only [CS.add];grind
theorem add_zero (x:Re):x+0=x:=by
 revert x;refine Re.ind fun a=>?_
 exact mk_same fun n=>by simp only [CS.add,CS.con];grind
theorem add_neg (x:Re):x + -x=0:=by
 revert x;refine Re.ind fun a=>?_
 exact mk_same fun n=>by simp only [CS.add,CS.neg,CS.con];grind
theorem mul_comm (x y:Re):x*y=y*x:=by
 revert x y;refine Re.ind fun a=>Re.ind fun b=>?_
 exact mk_same fun n=>by simp only [CS.mul];grind
theorem mul_assoc (x y z:Re):x*y*z=x*(y*z):=by
 revert x y z;refine Re.ind fun a=>Re.ind fun b=>Re.ind fun c=>?_
 exact mk_same fun n=>by simp only [CS.mul];grind
theorem mul_one (x:Re):x*1=x:=by
 revert x;refine Re.ind fun a=>?_
 exact mk_same fun n=>by simp only [CS.mul,CS.con];grind
theorem mul_add (x y z:Re):x*(y+z)=x*y+x*z:=by
 revert x y z;refine Re.ind fun a=>Re.ind fun b=>Re.ind fun c=>?_
 exact mk_same fun n=>by simp only [CS.mul,CS.add];grind
theorem rat_add (p q:Rat):rat (p+q)=rat p+rat q:=rfl
theorem rat_mul (p q:Rat):rat (p*q)=rat p*rat q:=rfl
theorem rat_neg (p:Rat):rat (-p)= - rat p:=rfl
theorem Pos.congr {a b:CS} (h:Pos a.s) (k:Eqv a b):Pos b.s:=by
 obtain ⟨e,he,N,hN⟩:=h
 obtain ⟨M,hM⟩:=k (e/2) (zev he)
 refine ⟨e/2,zev he,max N M,fun n hn=>?_⟩
 have a1:=hN n (by omega)
 have a2:=hM n (by omega)
 simp only at a2
 grind
def Re.pos (x:Re):Prop:=Quotient.lift (fun a:CS=>Pos a.s) (fun a b h=>propext ⟨fun k=>k.congr h,fun k=>k.congr (Eqv.symm h)⟩) x
instance:LT Re:=⟨fun x y=>Re.pos (y-x)⟩
instance:LE Re:=⟨fun x y=>¬y<x⟩
theorem lt_def (x y:Re):(x<y)=Re.pos (y-x):=rfl
theorem pos_add {x y:Re}:x.pos->y.pos->(x+y).pos:=by
 obtain ⟨a,rfl⟩:=x.rep
 obtain ⟨b,rfl⟩:=y.rep
 rintro ⟨e,he,N,hN⟩ ⟨f,hf,M,hM⟩
 refine ⟨e,he,max N M,fun n hn=>?_⟩
 have a1:=hN n (by omega)
 have a2:=hM n (by omega)
 simp only [CS.add];grind
theorem pos_mul {x y:Re}:x.pos->y.pos->(x*y).pos:=by
 obtain ⟨a,rfl⟩:=x.rep
 obtain ⟨b,rfl⟩:=y.rep
 rintro ⟨e,he,N,hN⟩ ⟨f,hf,M,hM⟩
 refine ⟨e*f,Rat.mul_pos he hf,max N M,fun n hn=>?_⟩
 have a1:=hN n (by omega)
 have a2:=hM n (by omega)
 have p1:0<(a.s n-e)*f:=Rat.mul_pos (by grind) hf
 have p2:0<a.s n*(b.s n-f):=Rat.mul_pos (by grind) (by grind)
 simp only [CS.mul];grind
theorem not_pos_zero:¬(0:Re).pos:=by
 rintro ⟨e,he,N,hN⟩
 have:=hN N (Nat.le_refl N)
 simp only [CS.con] at this
 grind
theorem pos_tri {x:Re}:¬x.pos->¬(-x).pos->x=0:=by
 obtain ⟨a,rfl⟩:=x.rep
 intro h k
 refine mk_eq.2 ?_
 intro e he
 obtain ⟨N,hN⟩:=a.c (e/2) (zev he)
 have k1:∃n,N<=n/\¬(e/2<a.s n):=Classical.byContradiction fun c=>h ⟨e/2,zev he,N,fun n hn=>Classical.byContradiction fun d=>c ⟨n,hn,d⟩⟩
 have k2:∃n,N<=n/\¬(e/2 < - a.s n):=Classical.byContradiction fun c=>k ⟨e/2,zev he,N,fun n hn=>Classical.byContradiction fun d=>c ⟨n,hn,d⟩⟩
 obtain ⟨p,hp,hp'⟩:=k1
 obtain ⟨q,hq,hq'⟩:=k2
 refine ⟨N,fun n hn=>?_⟩
 have u1:=hN n p hn hp
 have u2:=hN q n hq hn
 simp only [CS.con,Rat.not_lt] at *
 grind
theorem rat_pos {q:Rat}:(rat q).pos↔0<q:=by
 constructor
 ·rintro ⟨e,he,N,hN⟩
  have:=hN N (Nat.le_refl N)
  simp only [CS.con] at this
  grind
 ·intro h
  exact ⟨q/2,zev h,0,fun n _=>by simp only [CS.con];grind⟩
theorem arch_rat (x:Re):∃q:Rat,x<rat q:=by
 revert x;refine Re.ind fun a=>?_
 obtain ⟨B,b0,hB⟩:=a.c.bdd
 refine ⟨B+1,1,by decide,0,fun n _=>?_⟩
 have:=(hB n).2
 simp only [CS.add,CS.neg,CS.con];grind
theorem arch_nat (q:Rat):∃n:Nat,q<(n:Rat):=by
 refine ⟨(q.floor+1).toNat,?_⟩
 have h:=Rat.lt_floor_add_one q
 rcases Int.le_total 0 (q.floor+1) with k|k
 ·have e:((q.floor+1).toNat:Int)=q.floor+1:=Int.toNat_of_nonneg k
  have e2:(((q.floor+1).toNat:Nat):Rat)=((q.floor+1:Int):Rat):=by rw [<- Rat.intCast_natCast,e]
  rw [e2];exact h
 ·have k2:((q.floor+1:Int):Rat)<=0:=Rat.intCast_nonpos.2 k
  have k3:(0:Rat)<=(((q.floor+1).toNat:Nat):Rat):=Rat.natCast_nonneg
  grind
theorem near_rat (x:Re) {e:Rat} (he:0<e):∃q:Rat,x-rat q<rat e/\rat q-x<rat e:=by
 revert x;refine Re.ind fun a=>?_
 obtain ⟨N,hN⟩:=a.c (e/2) (zev he)
 refine ⟨a.s N,⟨e/4,by grind,N,fun n hn=>?_⟩,⟨e/4,by grind,N,fun n hn=>?_⟩⟩
 ·have:=hN n N hn (Nat.le_refl N)
  simp only [CS.add,CS.neg,CS.con];grind
 ·have:=hN N n (Nat.le_refl N) hn
  simp only [CS.add,CS.neg,CS.con];grind
theorem inv_ex {x:Re}:x.pos->∃y,x*y=1:=by
 obtain ⟨a,rfl⟩:=x.rep
 rintro ⟨e,he,N,hN⟩
 have hc:Cau (fun n=>(a.s (n+N))⁻¹):=by
  intro d hd
  obtain ⟨M,hM⟩:=a.c (d*(e*e)) (Rat.mul_pos hd (Rat.mul_pos he he))
  refine ⟨M,fun m n hm hn=>?_⟩
  have u:=hM (n+N) (m+N) (by omega) (by omega)
  have um:=hN (m+N) (by omega)
  have un:=hN (n+N) (by omega)
  show (a.s (m+N))⁻¹-(a.s (n+N))⁻¹<d
  generalize a.s (m+N)=p at *
  generalize a.s (n+N)=q at *
  have hp:0<p:=by grind
  have hq:0<q:=by grind
  have hpq:0<p*q:=Rat.mul_pos hp hq
  have e1:(p⁻¹-q⁻¹)*(p*q)=q-p:=by
   have i1:=Rat.inv_mul_cancel p (by grind)
   have i2:=Rat.inv_mul_cancel q (by grind)
   grind
  have e2:d*(e*e)<=d*(p*q):=by
   have p1:0<(p-e)*q:=Rat.mul_pos (by grind) hq
   have p2:0<e*(q-e):=Rat.mul_pos he (by grind)
   have:e*e<=p*q:=by grind
   exact Rat.mul_le_mul_of_nonneg_left this (by grind)
  refine Rat.lt_of_mul_lt_mul_right (c:=p*q) ?_ (by grind)
  grind
 refine ⟨mk ⟨_,hc⟩,mk_eq.2 ?_⟩
 intro d hd
 have hf:∀n,N<=n->a.s n*(a.s n)⁻¹=1:=fun n hn=>Rat.mul_inv_cancel _ (by have:=hN n hn;grind)
 obtain ⟨B,b0,hB⟩:=hc.bdd
 obtain ⟨M,hM⟩:=a.c (d/B) (div_pos hd b0)
 refine ⟨max M N,fun n hn=>?_⟩
 have u1:=hM n (n+N) (by omega) (by omega)
 have u2:=hM (n+N) n (by omega) (by omega)
 have v:=mul_bd' (hB n).1 (hB n).2 (x:=a.s n-a.s (n+N)) (d:=d/B) (by grind) u1
 have w:=hf (n+N) (by omega)
 have z1:B*(d/B)=d:=by rw [Rat.mul_comm];exact Rat.div_mul_cancel (by grind)
 simp only [CS.mul,CS.con]
 grind
end Go.Proofs.YtlolpmmloolieaaGreatDoor.An
namespace Go.Proofs.YtlolpmmloolieaaGreatDoor.An
def npow (x:Re):Nat->Re
 | 0=>1
 | n+1=>npow x n*x
instance:Pow Re Nat:=⟨npow⟩
theorem pow_succ (x:Re) (n:Nat):x^(n+1)=x^n*x:=rfl
theorem zero_add (x:Re):0+x=x:=by rw [add_comm,add_zero]
theorem one_mul (x:Re):1*x=x:=by rw [mul_comm,mul_one]
theorem add_mul (x y z:Re):(x+y)*z=x*z+y*z:=by rw [mul_comm,mul_add,mul_comm z x,mul_comm z y]
theorem add_left_comm (x y z:Re):x+(y+z)=y+(x+z):=by rw [<- add_assoc,add_comm x y,add_assoc]
theorem mul_left_comm (x y z:Re):x*(y*z)=y*(x*z):=by rw [<- mul_assoc,mul_comm x y,mul_assoc]
theorem add_cancel {x y z:Re} (h:x+y=x+z):y=z:=by
 have: -x+(x+y)= -x+(x+z):=by rw [h]
 rwa [<- add_assoc,<- add_assoc,add_comm (-x) x,add_neg,zero_add,zero_add] at this
theorem mul_zero (x:Re):x*0=0:=by
 apply add_cancel (x:=x*0)
 rw [<- mul_add,add_zero,add_zero]
theorem zero_mul (x:Re):0*x=0:=by rw [mul_comm,mul_zero]
theorem neg_mul (x y:Re): -x*y= -(x*y):=by
 apply add_cancel (x:=x*y)
 rw [<- add_mul,add_neg,add_neg,zero_mul]
theorem neg_eq (x:Re): -x=rat (-1)*x:=by
 have:rat (-1)= - 1:=rfl
 rw [this,neg_mul,one_mul]
inductive PE where
 | v (n:Nat)
 | q (r:Rat)
 | add (a b:PE)
 | sub (a b:PE)
 | mul (a b:PE)
 | neg (a:PE)
 | pow (a:PE) (n:Nat)
def PE.ev (l:List Re):PE->Re
 | .v n=>l.getD n 0
 | .q r=>rat r
 | .add a b=>a.ev l+b.ev l
 | .sub a b=>a.ev l-b.ev l
 | .mul a b=>a.ev l*b.ev l
 | .neg a=> - a.ev l
 | .pow a n=>a.ev l^n
def mulv (i:Nat):List Nat->List Nat
 | []=> [i]
 | j::m=>bif Nat.ble i j then i::j::m else j::mulv i m
def mulm (m n:List Nat):List Nat:=m.foldr mulv n
def cmpm:List Nat->List Nat->Ordering
 | [],[]=> .eq
 | [],_::_=> .lt
 | _::_,[]=> .gt
 | i::m,j::n=>bif Nat.beq i j then cmpm m n else bif Nat.ble i j then .lt else .gt
theorem cmpm_eq {m n:List Nat} (h:cmpm m n= .eq):m=n:=by
 induction m generalizing n with
 | nil=>cases n with
  | nil=>rfl
  | cons j n=>simp [cmpm] at h
 | cons i m ih=>cases n with
  | nil=>simp [cmpm] at h
  | cons j n=>
   simp only [cmpm] at h
   cases hb:Nat.beq i j
   ·rw [hb] at h;cases hc:Nat.ble i j<;>rw [hc] at h<;>cases h
   ·rw [hb] at h;rw [ih h,Nat.eq_of_beq_eq_true hb]
def addt (t:List Nat×Rat):List (List Nat×Rat)->List (List Nat×Rat)
 | []=> [t]
 | u::p=>match cmpm t.1 u.1 with
  | .lt=>t::u::p
  | .eq=>bif decide (t.2+u.2=0) then p else (t.1,t.2+u.2)::p
  | .gt=>u::addt t p
def addp (p q:List (List Nat×Rat)):List (List Nat×Rat):=p.foldr addt q
def mult (t:List Nat×Rat) (q r:List (List Nat×Rat)):List (List Nat×Rat):=q.foldr (fun u r=>addt (mulm t.1 u.1,t.2*u.2) r) r
def mulp (p q:List (List Nat×Rat)):List (List Nat×Rat):=p.foldr (fun t r=>mult t q r) []
def powp (p:List (List Nat×Rat)):Nat->List (List Nat×Rat)
 | 0=> [([],1)]
 | n+1=>mulp (powp p n) p
def PE.norm:PE->List (List Nat×Rat)
 | .v n=> [([n],1)]
 | .q r=>bif decide (r=0) then [] else [([],r)]
 | .add a b=>addp a.norm b.norm
 | .sub a b=>addp a.norm (mulp [([],-1)] b.norm)
 | .mul a b=>mulp a.norm b.norm
 | .neg a=>mulp [([],-1)] a.norm
 | .pow a n=>powp a.norm n
def evm (l:List Re) (m:List Nat):Re:=m.foldr (fun i x=>l.getD i 0*x) 1
def evp (l:List Re) (p:List (List Nat×Rat)):Re:=p.foldr (fun t x=>rat t.2*evm l t.1+x) 0
theorem evm_mulv (l:List Re) (i:Nat) (m:List Nat):evm l (mulv i m)=l.getD i 0*evm l m:=by
 induction m with
 | nil=>rfl
 | cons j m ih=>
  simp only [mulv]
  cases Nat.ble i j
  ·show l.getD j 0*evm l (mulv i m)=l.getD i 0*(l.getD j 0*evm l m)
   rw [ih,mul_left_comm]
  ·rfl
theorem evm_mulm (l:List Re) (m n:List Nat):evm l (mulm m n)=evm l m*evm l n:=by
 induction m with
 | nil=>exact (one_mul _).symm
 | cons i m ih=>
  show evm l (mulv i (mulm m n))=l.getD i 0*evm l m*evm l n
  rw [evm_mulv,ih,mul_assoc]
theorem rat_zero:rat 0=0:=rfl
theorem evp_addt (l:List Re) (t:List Nat×Rat) (p:List (List Nat×Rat)):evp l (addt t p)=rat t.2*evm l t.1+evp l p:=by
 induction p with
 | nil=>rfl
 | cons u p ih=>
  simp only [addt]
  cases hc:cmpm t.1 u.1
  ·rfl
  ·have e:=cmpm_eq hc
   simp only
   have key:rat (t.2+u.2)*evm l t.1+evp l p=rat t.2*evm l t.1+evp l (u::p):=by
    show _=rat t.2*evm l t.1+(rat u.2*evm l u.1+evp l p)
    rw [rat_add,add_mul,<- e,add_assoc]
   cases hz:decide (t.2+u.2=0)
   ·exact key
   ·have z:=of_decide_eq_true hz
    rw [<- key,z,rat_zero,zero_mul,zero_add]
    rfl
  ·show rat u.2*evm l u.1+evp l (addt t p)=rat t.2*evm l t.1+(rat u.2*evm l u.1+evp l p)
   rw [ih,add_left_comm]
theorem evp_addp (l:List Re) (p q:List (List Nat×Rat)):evp l (addp p q)=evp l p+evp l q:=by
 induction p with
 | nil=>exact (zero_add _).symm
 | cons t p ih=>
  show evp l (addt t (addp p q))=rat t.2*evm l t.1+evp l p+evp l q
  rw [evp_addt,ih,add_assoc]
theorem evp_mult (l:List Re) (t:List Nat×Rat) (q r:List (List Nat×Rat)):evp l (mult t q r)=rat t.2*evm l t.1*evp l q+evp l r:=by
 induction q with
 | nil=>show evp l r=_*0+_;rw [mul_zero,zero_add]
 | cons u q ih=>
  show evp l (addt (mulm t.1 u.1,t.2*u.2) (mult t q r))=rat t.2*evm l t.1*(rat u.2*evm l u.1+evp l q)+evp l r
  rw [evp_addt,ih,evm_mulm,rat_mul,mul_add]
  simp only [mul_assoc,add_assoc,mul_left_comm (evm l t.1) (rat u.2)]
theorem evp_mulp (l:List Re) (p q:List (List Nat×Rat)):evp l (mulp p q)=evp l p*evp l q:=by
 induction p with
 | nil=>exact (zero_mul _).symm
 | cons t p ih=>
  show evp l (mult t q (mulp p q))=(rat t.2*evm l t.1+evp l p)*evp l q
  rw [evp_mult,ih,add_mul]
theorem evp_one (l:List Re):evp l [([],1)]=1:=by
 show rat 1*1+0=1
 rw [add_zero,mul_one];rfl
theorem evp_minus (l:List Re):evp l [([],-1)]=rat (-1):=by
 show rat (-1)*1+0=_
 rw [add_zero,mul_one]
theorem evp_powp (l:List Re) (p:List (List Nat×Rat)) (n:Nat):evp l (powp p n)=evp l p^n:=by
 induction n with
 | zero=>exact evp_one l
 | succ n ih=>
  show evp l (mulp (powp p n) p)=evp l p^n*evp l p
  rw [evp_mulp,ih]
theorem PE.sound (l:List Re) (a:PE):evp l a.norm=a.ev l:=by
 induction a with
 | v n=>show rat 1*(l.getD n 0*1)+0=l.getD n 0;rw [mul_one,add_zero];exact one_mul _
 | q r=>
  simp only [PE.norm,PE.ev]
  cases hz:decide (r=0)
  ·show rat r*1+0=rat r;rw [add_zero,mul_one]
  ·rw [of_decide_eq_true hz];rfl
 | add a b iha ihb=>simp only [PE.norm,PE.ev,evp_addp,iha,ihb]
 | sub a b iha ihb=>simp only [PE.norm,PE.ev,evp_addp,evp_mulp,evp_minus,iha,ihb,sub_eq,neg_eq (b.ev l)]
 | mul a b iha ihb=>simp only [PE.norm,PE.ev,evp_mulp,iha,ihb]
 | neg a ih=>simp only [PE.norm,PE.ev,evp_mulp,evp_minus,ih,neg_eq (a.ev l)]
 | pow a n ih=>simp only [PE.norm,PE.ev,evp_powp,ih]
theorem zbP {x y:Re} (h:x-y=0):x=y:=by
 have:x + -y=y + -y:=by rw [add_neg];exact h
 rw [add_comm x,add_comm y] at this
 exact add_cancel this
class Rf (l:List Re) (x:Re) (e:outParam PE):Prop where
 eq:e.ev l=x
instance (priority:=low) rfAt0 {x:Re} {l:List Re}:Rf (x::l) x (.v 0):=⟨rfl⟩
instance (priority:=low) rfAt1 {v0 x:Re} {l:List Re}:Rf (v0::x::l) x (.v 1):=⟨rfl⟩
instance (priority:=low) rfAt2 {v0 v1 x:Re} {l:List Re}:Rf (v0::v1::x::l) x (.v 2):=⟨rfl⟩
instance (priority:=low) rfAt3 {v0 v1 v2 x:Re} {l:List Re}:Rf (v0::v1::v2::x::l) x (.v 3):=⟨rfl⟩
instance (priority:=low) rfAt4 {v0 v1 v2 v3 x:Re} {l:List Re}:Rf (v0::v1::v2::v3::x::l) x (.v 4):=⟨rfl⟩
instance (priority:=low) rfAt5 {v0 v1 v2 v3 v4 x:Re} {l:List Re}:Rf (v0::v1::v2::v3::v4::x::l) x (.v 5):=⟨rfl⟩
instance (priority:=low) rfAt6 {v0 v1 v2 v3 v4 v5 x:Re} {l:List Re}:Rf (v0::v1::v2::v3::v4::v5::x::l) x (.v 6):=⟨rfl⟩
instance (priority:=low) rfAt7 {v0 v1 v2 v3 v4 v5 v6 x:Re} {l:List Re}:Rf (v0::v1::v2::v3::v4::v5::v6::x::l) x (.v 7):=⟨rfl⟩
instance (priority:=low) rfAt8 {v0 v1 v2 v3 v4 v5 v6 v7 x:Re} {l:List Re}:Rf (v0::v1::v2::v3::v4::v5::v6::v7::x::l) x (.v 8):=⟨rfl⟩
instance (priority:=low) rfAt9 {v0 v1 v2 v3 v4 v5 v6 v7 v8 x:Re} {l:List Re}:Rf (v0::v1::v2::v3::v4::v5::v6::v7::v8::x::l) x (.v 9):=⟨rfl⟩
instance (priority:=low) rfAt10 {v0 v1 v2 v3 v4 v5 v6 v7 v8 v9 x:Re} {l:List Re}:Rf (v0::v1::v2::v3::v4::v5::v6::v7::v8::v9::x::l) x (.v 10):=⟨rfl⟩
instance (priority:=low) rfAt11 {v0 v1 v2 v3 v4 v5 v6 v7 v8 v9 v10 x:Re} {l:List Re}:Rf (v0::v1::v2::v3::v4::v5::v6::v7::v8::v9::v10::x::l) x (.v 11):=⟨rfl⟩
instance (priority:=low) rfAt12 {v0 v1 v2 v3 v4 v5 v6 v7 v8 v9 v10 v11 x:Re} {l:List Re}:Rf (v0::v1::v2::v3::v4::v5::v6::v7::v8::v9::v10::v11::x::l) x (.v 12):=⟨rfl⟩
instance (priority:=low) rfAt13 {v0 v1 v2 v3 v4 v5 v6 v7 v8 v9 v10 v11 v12 x:Re} {l:List Re}:Rf (v0::v1::v2::v3::v4::v5::v6::v7::v8::v9::v10::v11::v12::x::l) x (.v 13):=⟨rfl⟩
instance (priority:=low) rfAt14 {v0 v1 v2 v3 v4 v5 v6 v7 v8 v9 v10 v11 v12 v13 x:Re} {l:List Re}:Rf (v0::v1::v2::v3::v4::v5::v6::v7::v8::v9::v10::v11::v12::v13::x::l) x (.v 14):=⟨rfl⟩
instance (priority:=low) rfAt15 {v0 v1 v2 v3 v4 v5 v6 v7 v8 v9 v10 v11 v12 v13 v14 x:Re} {l:List Re}:Rf (v0::v1::v2::v3::v4::v5::v6::v7::v8::v9::v10::v11::v12::v13::v14::x::l) x (.v 15):=⟨rfl⟩
instance rfAdd {l:List Re} {x y:Re} {a b:PE} [h:Rf l x a] [k:Rf l y b]:Rf l (x+y) (.add a b):=⟨by rw [PE.ev,h.eq,k.eq]⟩
instance rfSub {l:List Re} {x y:Re} {a b:PE} [h:Rf l x a] [k:Rf l y b]:Rf l (x-y) (.sub a b):=⟨by rw [PE.ev,h.eq,k.eq]⟩
instance rfMul {l:List Re} {x y:Re} {a b:PE} [h:Rf l x a] [k:Rf l y b]:Rf l (x*y) (.mul a b):=⟨by rw [PE.ev,h.eq,k.eq]⟩
instance rfNeg {l:List Re} {x:Re} {a:PE} [h:Rf l x a]:Rf l (-x) (.neg a):=⟨by rw [PE.ev,h.eq]⟩
instance rfPow {l:List Re} {x:Re} {a:PE} {n:Nat} [h:Rf l x a]:Rf l (x^n) (.pow a n):=⟨by rw [PE.ev,h.eq]⟩
instance rfRat {l:List Re} {r:Rat}:Rf l (rat r) (.q r):=⟨rfl⟩
instance rfNum {l:List Re} {n:Nat}:Rf l (no_index (OfNat.ofNat n)) (.q (OfNat.ofNat n)):=⟨rfl⟩
def PE.nil (a:PE):Bool:=match a.norm with
 | []=>true
 | _=>false
theorem PE.nil_ev {a:PE} (h:a.nil=true) (l:List Re):a.ev l=0:=by
 rw [<- PE.sound]
 simp only [PE.nil] at h
 cases hn:a.norm with
 | nil=>rfl
 | cons t p=>rw [hn] at h;cases h
theorem ring (l:List Re) {x y:Re} {a b:PE} [h:Rf l x a] [k:Rf l y b] (e:(a.sub b).nil=true:=by kernel_rfl):x=y:=by
 have:=PE.nil_ev e l
 rw [PE.ev,h.eq,k.eq] at this
 exact zbP this
theorem zfh (x:Re):0<x↔x.pos:=by
 rw [lt_def,show x-0=x from ring [x]]
theorem lt_sub {x y:Re}:x<y↔0<y-x:=by rw [zfh];rfl
theorem le_sub {x y:Re}:x<=y↔0<=y-x:=by
 show ¬(y<x)↔¬(y-x<0)
 rw [lt_sub,lt_sub (x:=y-x),show 0-(y-x)=x-y from ring [x,y]]
theorem not_le {x y:Re}:¬x<=y↔y<x:=Classical.not_not
theorem not_lt {x y:Re}:¬x<y↔y<=x:=Iff.rfl
theorem pp {x y:Re} (h:0<x) (k:0<y):0<x+y:=by rw [zfh] at *;exact pos_add h k
theorem mp {x y:Re} (h:0<x) (k:0<y):0<x*y:=by rw [zfh] at *;exact pos_mul h k
theorem lt_irrefl (x:Re):¬x<x:=by
 rw [lt_sub,zfh,show x-x=0 from ring [x]];exact not_pos_zero
theorem lt_trans {x y z:Re} (h:x<y) (k:y<z):x<z:=by
 rw [lt_sub] at *
 have:=pp h k
 rwa [show y-x+(z-y)=z-x from ring [x,y,z]] at this
theorem le_of_lt {x y:Re} (h:x<y):x<=y:=fun k=>lt_irrefl x (lt_trans h k)
theorem tri (x y:Re):x<y\/x=y\/y<x:=by
 by_cases h:x<y
 ·exact .inl h
 by_cases k:y<x
 ·exact .inr (.inr k)
 rw [lt_sub,zfh] at h k
 refine .inr (.inl (zbP (pos_tri k ?_)))
 rwa [show -(x-y)=y-x from ring [x,y]]
theorem le_iff {x y:Re}:x<=y↔x<y\/x=y:=by
 constructor
 ·intro h
  rcases tri x y with k|k|k
  ·exact .inl k
  ·exact .inr k
  ·exact absurd k h
 ·rintro (h|rfl)
  ·exact le_of_lt h
  ·exact lt_irrefl _
theorem le_refl (x:Re):x<=x:=lt_irrefl x
theorem le_of_eq {x y:Re} (h:x=y):x<=y:=h▸le_refl x
theorem lt_of_lt_of_le {x y z:Re} (h:x<y) (k:y<=z):x<z:=by
 rcases le_iff.1 k with k|rfl
 ·exact lt_trans h k
 ·exact h
theorem lt_of_le_of_lt {x y z:Re} (h:x<=y) (k:y<z):x<z:=by
 rcases le_iff.1 h with h|rfl
 ·exact lt_trans h k
 ·exact k
theorem le_trans {x y z:Re} (h:x<=y) (k:y<=z):x<=z:=by
 rcases le_iff.1 h with h|rfl
 ·exact le_of_lt (lt_of_lt_of_le h k)
 ·exact k
theorem le_total (x y:Re):x<=y\/y<=x:=by
 rcases tri x y with h|rfl|h
 ·exact .inl (le_of_lt h)
 ·exact .inl (le_refl _)
 ·exact .inr (le_of_lt h)
theorem le_antisymm {x y:Re} (h:x<=y) (k:y<=x):x=y:=by
 rcases le_iff.1 h with h|h
 ·exact absurd h k
 ·exact h
theorem lt_or_le (x y:Re):x<y\/y<=x:=by
 rcases tri x y with h|rfl|h
 ·exact .inl h
 ·exact .inr (le_refl _)
 ·exact .inr (le_of_lt h)
theorem pn {x y:Re} (h:0<=x) (k:0<=y):0<=x+y:=by
 rcases le_iff.1 h with h|rfl
 ·rcases le_iff.1 k with k|rfl
  ·exact le_of_lt (pp h k)
  ·rw [add_zero];exact le_of_lt h
 ·rw [zero_add];exact k
theorem mn {x y:Re} (h:0<=x) (k:0<=y):0<=x*y:=by
 rcases le_iff.1 h with h|rfl
 ·rcases le_iff.1 k with k|rfl
  ·exact le_of_lt (mp h k)
  ·rw [mul_zero];exact le_refl _
 ·rw [zero_mul];exact le_refl _
theorem ppn {x y:Re} (h:0<x) (k:0<=y):0<x+y:=by
 rcases le_iff.1 k with k|rfl
 ·exact pp h k
 ·rw [add_zero];exact h
theorem sn {x y:Re} (h:x<=y):0<=y-x:=le_sub.1 h
theorem sp {x y:Re} (h:x<y):0<y-x:=lt_sub.1 h
theorem zaa (l:List Re) {x y p:Re} (hp:0<=p) {a b c:PE} [h:Rf l x a] [k:Rf l y b] [m:Rf l p c] (e:((b.sub a).sub c).nil=true:=by kernel_rfl):x<=y:=by
 have:=PE.nil_ev e l
 simp only [PE.ev,h.eq,k.eq,m.eq] at this
 rw [le_sub,zbP this];exact hp
theorem lt_by (l:List Re) {x y p:Re} (hp:0<p) {a b c:PE} [h:Rf l x a] [k:Rf l y b] [m:Rf l p c] (e:((b.sub a).sub c).nil=true:=by kernel_rfl):x<y:=by
 have:=PE.nil_ev e l
 simp only [PE.ev,h.eq,k.eq,m.eq] at this
 rw [lt_sub,zbP this];exact hp
theorem eq_by (l:List Re) {x y p q:Re} (hp:p=q) {a b c d:PE} [h:Rf l x a] [k:Rf l y b] [m:Rf l p c] [n:Rf l q d] (e:((a.sub b).sub (c.sub d)).nil=true:=by kernel_rfl):x=y:=by
 have:=PE.nil_ev e l
 simp only [PE.ev,h.eq,k.eq,m.eq,n.eq] at this
 refine zbP ((zbP this).trans ?_)
 rw [hp];exact ring [q]
theorem rat_lt {p q:Rat}:rat p<rat q↔p<q:=by
 rw [lt_def,show rat q-rat p=rat (q + -p) from rfl,rat_pos,<- Rat.sub_eq_add_neg,<- Rat.lt_iff_sub_pos]
theorem rat_le {p q:Rat}:rat p<=rat q↔p<=q:=by
 show ¬(rat q<rat p)↔_
 rw [rat_lt,Rat.not_lt]
theorem rat_nn {q:Rat} (h:0<=q):0<=rat q:=rat_le.2 h
theorem rat_p {q:Rat} (h:0<q):0<rat q:=rat_lt.2 h
theorem qn (q:Rat) (h:decide (0<=q)=true:=by kernel_rfl):0<=rat q:=rat_nn (of_decide_eq_true h)
theorem qp (q:Rat) (h:decide (0<q)=true:=by kernel_rfl):0<rat q:=rat_p (of_decide_eq_true h)
theorem num_le (p q:Rat) (h:decide (p<=q)=true:=by kernel_rfl):rat p<=rat q:=rat_le.2 (of_decide_eq_true h)
theorem kn (q:Rat) {x:Re} (hx:0<=x) (h:decide (0<=q)=true:=by kernel_rfl):0<=rat q*x:=mn (qn q h) hx
theorem kp (q:Rat) {x:Re} (hx:0<x) (h:decide (0<q)=true:=by kernel_rfl):0<rat q*x:=mp (qp q h) hx
theorem sqn (x:Re):0<=x*x:=by
 rcases le_total 0 x with h|h
 ·exact mn h h
 ·have:=mn (sn h) (sn h)
  exact zaa [x] this
theorem inv_all {x:Re} (h:x≠0):∃y,x*y=1:=by
 rcases tri 0 x with k|k|k
 ·exact inv_ex ((zfh x).1 k)
 ·exact absurd k.symm h
 ·have k2:0 < -x:=lt_by [x] (sp k)
  obtain ⟨y,hy⟩:=inv_ex ((zfh _).1 k2)
  exact ⟨-y,(ring [x,y]:x * -y= -x*y).trans hy⟩
open Classical in
def Re.inv (x:Re):Re:=if h:x≠0 then Classical.choose (inv_all h) else 0
instance:Inv Re:=⟨Re.inv⟩
instance:Div Re:=⟨fun x y=>x*y⁻¹⟩
theorem div_eq (x y:Re):x/y=x*y⁻¹:=rfl
theorem mul_inv {x:Re} (h:x≠0):x*x⁻¹=1:=by
 show x*Re.inv x=1
 rw [Re.inv,dif_pos h];exact Classical.choose_spec (inv_all h)
theorem ne_of_gt {x y:Re} (h:x<y):y≠x:=fun e=>lt_irrefl x (e▸h)
theorem ne_of_lt {x y:Re} (h:x<y):x≠y:=fun e=>lt_irrefl x (e▸h)
theorem div_mul {x y:Re} (h:y≠0):x/y*y=x:=by
 rw [div_eq]
 exact eq_by [x,y,y⁻¹] (congrArg (fun z=>x*z) (mul_inv h):x*(y*y⁻¹)=x*1)
theorem inv_p {x:Re} (h:0<x):0<x⁻¹:=by
 have e:=mul_inv (ne_of_gt h)
 rcases lt_or_le 0 x⁻¹ with k|k
 ·exact k
 ·have:=mn (le_of_lt h) (sn k)
  have e2:x*(0-x⁻¹)= -1:=eq_by [x,x⁻¹] (congrArg (fun z=> -z) e: -(x*x⁻¹)= -1)
  rw [e2] at this
  exact absurd (lt_by [] (qp 1):(-1:Re)<0) this
theorem div_p {x y:Re} (h:0<x) (k:0<y):0<x/y:=mp h (inv_p k)
theorem div_n {x y:Re} (h:0<=x) (k:0<y):0<=x/y:=mn h (le_of_lt (inv_p k))
theorem zdh {x y z:Re} (hz:0<z) (h:x*z<=y*z):x<=y:=by
 rcases lt_or_le y x with k|k
 ·have:=mp (sp k) hz
  exact absurd (lt_by [x,y,z] this) h
 ·exact k
theorem eq_of_mul {x y z:Re} (hz:z≠0) (h:x*z=y*z):x=y:=by
 have e:=mul_inv hz
 have a1:x*z*z⁻¹=y*z*z⁻¹:=by rw [h]
 have a2:x*z*z⁻¹=x*(z*z⁻¹):=mul_assoc _ _ _
 have a3:y*z*z⁻¹=y*(z*z⁻¹):=mul_assoc _ _ _
 rw [a2,a3,e,mul_one,mul_one] at a1
 exact a1
theorem div_le {x y z:Re} (hy:0<y):x/y<=z↔x<=z*y:=by
 constructor
 ·intro h
  have:=mn (sn h) (le_of_lt hy)
  have e:(z-x/y)*y=z*y-x:=by
   rw [show (z-x/y)*y=z*y-x/y*y from ring [z,x/y,y],div_mul (ne_of_gt hy)]
  rw [e] at this
  exact le_sub.2 this
 ·intro h
  refine zdh hy ?_
  rwa [div_mul (ne_of_gt hy)]
theorem le_div {x y z:Re} (hy:0<y):z<=x/y↔z*y<=x:=by
 constructor
 ·intro h
  have:=mn (sn h) (le_of_lt hy)
  have e:(x/y-z)*y=x-z*y:=by
   rw [show (x/y-z)*y=x/y*y-z*y from ring [z,x/y,y],div_mul (ne_of_gt hy)]
  rw [e] at this
  exact le_sub.2 this
 ·intro h
  refine zdh hy ?_
  rwa [div_mul (ne_of_gt hy)]
theorem div_lt {x y z:Re} (hy:0<y):x/y<z↔x<z*y:=by
 rw [<- not_le,le_div hy,not_le]
theorem arch (x:Re):∃n:Nat,x<rat n:=by
 obtain ⟨q,hq⟩:=arch_rat x
 obtain ⟨n,hn⟩:=arch_nat q
 exact ⟨n,lt_trans hq (rat_lt.2 hn)⟩
theorem le_of_eps {x c:Re} (h:∀n:Nat,0<n->x*rat n<=c):x<=0:=by
 rcases lt_or_le 0 x with k|k
 ·obtain ⟨n,hn⟩:=arch (c/x)
  rw [div_lt k] at hn
  have h1:=h (n+1) (Nat.succ_pos n)
  have e:rat ((n+1:Nat):Rat)=rat n+1:=by
   rw [show ((n+1:Nat):Rat)=(n:Rat)+1 from Rat.natCast_add n 1,rat_add];rfl
  rw [e] at h1
  have:x*(rat n+1)<=x*rat n:=le_trans h1 (le_of_lt (by rw [mul_comm];exact hn))
  generalize rat (n:Rat)=r at this
  exact absurd (lt_by [x,r] k:x*r<x*(r+1)) this
 ·exact k
end Go.Proofs.YtlolpmmloolieaaGreatDoor.An
namespace Go.Proofs.YtlolpmmloolieaaGreatDoor.An
open Classical in
def abs (x:Re):Re:=if 0<=x then x else -x
theorem zbM {x:Re} (h:0<=x):abs x=x:=by rw [abs,if_pos h]
theorem zfI {x:Re} (h:x<=0):abs x= -x:=by
 by_cases k:0<=x
 ·have:x=0:=le_antisymm h k
  subst this;rw [zbM k];exact ring []
 ·rw [abs,if_neg k]
theorem neg_nn {x:Re} (h:x<=0):0 <= -x:=zaa [x] (sn h)
theorem zcy (x:Re):0<=abs x:=by
 rcases le_total 0 x with h|h
 ·rw [zbM h];exact h
 ·rw [zfI h];exact neg_nn h
theorem le_abs (x:Re):x<=abs x:=by
 rcases le_total 0 x with h|h
 ·rw [zbM h];exact le_refl _
 ·exact le_trans h (zcy x)
theorem neg_le_abs (x:Re): -x<=abs x:=by
 rcases le_total 0 x with h|h
 ·exact le_trans (zaa [x] h) (zcy x)
 ·rw [zfI h];exact le_refl _
theorem abs_le {x c:Re} (h: -c<=x) (k:x<=c):abs x<=c:=by
 rcases le_total 0 x with m|m
 ·rw [zbM m];exact k
 ·rw [zfI m];exact zaa [x,c] (sn h)
theorem of_abs {x c:Re} (h:abs x<=c): -c<=x/\x<=c:=by
 have h1:=le_trans (le_abs x) h
 have h2:=le_trans (neg_le_abs x) h
 exact ⟨zaa [x,c] (sn h2),h1⟩
theorem abs_neg (x:Re):abs (-x)=abs x:=by
 rcases le_total 0 x with h|h
 ·rw [zbM h,zfI (zaa [x] h)];exact ring [x]
 ·rw [zfI h,zbM (neg_nn h)]
theorem abs_comm (x y:Re):abs (x-y)=abs (y-x):=by rw [<- abs_neg,show -(x-y)=y-x from ring [x,y]]
theorem abs_add (x y:Re):abs (x+y)<=abs x+abs y:=by
 have a1:=le_abs x
 have a2:=le_abs y
 have b1:=neg_le_abs x
 have b2:=neg_le_abs y
 generalize abs x=p at *
 generalize abs y=q at *
 exact abs_le (zaa [x,y,p,q] (pn (sn b1) (sn b2))) (zaa [x,y,p,q] (pn (sn a1) (sn a2)))
theorem abs_mul (x y:Re):abs (x*y)=abs x*abs y:=by
 rcases le_total 0 x with h|h<;>rcases le_total 0 y with k|k
 ·rw [zbM h,zbM k,zbM (mn h k)]
 ·rw [zbM h,zfI k,zfI (zaa [x,y] (mn h (neg_nn k)))];exact ring [x,y]
 ·rw [zfI h,zbM k,zfI (zaa [x,y] (mn (neg_nn h) k))];exact ring [x,y]
 ·rw [zfI h,zfI k,zbM (zaa [x,y] (mn (neg_nn h) (neg_nn k)))];exact ring [x,y]
theorem abs_zero:abs 0=0:=zbM (le_refl 0)
theorem abs_sq (x:Re):abs x*abs x=x*x:=by rw [<- abs_mul,zbM (sqn x)]
theorem abs_tri (x y z:Re):abs (x-z)<=abs (x-y)+abs (y-z):=by
 have:=abs_add (x-y) (y-z)
 rwa [show x-y+(y-z)=x-z from ring [x,y,z]] at this
theorem zeI {a b c d:Re} (h:a<=b) (k:c<=d):a+c<=b+d:=zaa [a,b,c,d] (pn (sn h) (sn k))
theorem mul_le {a b c d:Re} (ha:0<=a) (h:a<=b) (hc:0<=c) (k:c<=d):a*c<=b*d:=
 zaa [a,b,c,d] (pn (mn (sn h) (le_trans hc k)) (mn ha (sn k)))
theorem mul_le_l {a c d:Re} (ha:0<=a) (k:c<=d):a*c<=a*d:=zaa [a,c,d] (mn ha (sn k))
theorem zew {x y a b:Re} (h:abs x<=a) (k:abs y<=b):abs (x*y)<=a*b:=by
 rw [abs_mul];exact mul_le (zcy x) h (zcy y) k
theorem abs_eq_zero {x:Re} (h:abs x<=0):x=0:=by
 obtain ⟨a,b⟩:=of_abs h
 exact le_antisymm b (zaa [x] (sn a))
theorem halfp {e:Re} (h:0<e):0<e*rat (1/2):=mp h (qp _)
theorem lt_of_eps {x:Re} (h:∀e:Re,0<e->x<=e):x<=0:=by
 rcases lt_or_le 0 x with k|k
 ·have:=h _ (halfp k)
  exact absurd (lt_by [x] (halfp k):x*rat (1/2)<x) this
 ·exact k
def Lim (s:Nat->Re) (x:Re):Prop:=∀e:Re,0<e->∃N,∀n,N<=n->abs (s n-x)<=e
theorem Lim.unique {s:Nat->Re} {x y:Re} (h:Lim s x) (k:Lim s y):x=y:=by
 refine zbP (abs_eq_zero (lt_of_eps fun e he=>?_))
 obtain ⟨N,hN⟩:=h _ (halfp he)
 obtain ⟨M,hM⟩:=k _ (halfp he)
 have a:=hN (max N M) (by omega)
 have b:=hM (max N M) (by omega)
 generalize s (max N M)=z at *
 rw [abs_comm] at a
 have:=le_trans (abs_tri x z y) (zeI a b)
 rwa [show e*rat (1/2)+e*rat (1/2)=e from ring [e]] at this
theorem Lim.const (x:Re):Lim (fun _=>x) x:=fun e he=>⟨0,fun n _=>by show abs (x-x)<=e;rw [show x-x=0 from ring [x],abs_zero];exact le_of_lt he⟩
theorem Lim.add {s t:Nat->Re} {x y:Re} (h:Lim s x) (k:Lim t y):Lim (fun n=>s n+t n) (x+y):=by
 intro e he
 obtain ⟨N,hN⟩:=h _ (halfp he)
 obtain ⟨M,hM⟩:=k _ (halfp he)
 refine ⟨max N M,fun n hn=>?_⟩
 have:=le_trans (abs_add (s n-x) (t n-y)) (zeI (hN n (by omega)) (hM n (by omega)))
 show abs (s n+t n-(x+y))<=e
 generalize s n=u at *
 generalize t n=v at *
 rwa [show u-x+(v-y)=u+v-(x+y) from ring [u,v,x,y],show e*rat (1/2)+e*rat (1/2)=e from ring [e]] at this
theorem Lim.smul {s:Nat->Re} {x:Re} (c:Re) (h:Lim s x):Lim (fun n=>c*s n) (c*x):=by
 intro e he
 have h0:0<1+abs c:=ppn (qp 1) (zcy c)
 obtain ⟨N,hN⟩:=h (e/(1+abs c)) (div_p he h0)
 refine ⟨N,fun n hn=>?_⟩
 have a:=hN n hn
 show abs (c*s n-c*x)<=e
 generalize s n=u at *
 rw [show c*u-c*x=c*(u-x) from ring [c,u,x],abs_mul]
 rw [le_div h0] at a
 have b:=zcy (u-x)
 generalize abs (u-x)=p at *
 generalize abs c=q at *
 exact zaa [e,p,q] (pn (sn a) b)
theorem Lim.congr {s t:Nat->Re} {x:Re} (h:Lim s x) (k:∀n,s n=t n):Lim t x:=by rwa [<- show s=t from funext k]
theorem Lim.neg {s:Nat->Re} {x:Re} (h:Lim s x):Lim (fun n=> - s n) (-x):=by
 have:=(h.smul (-1)).congr (t:=fun n=> - s n) (fun n=>by show -1*s n= - s n;generalize s n=u;exact ring [u])
 rwa [show -1*x= -x from ring [x]] at this
theorem Lim.sub {s t:Nat->Re} {x y:Re} (h:Lim s x) (k:Lim t y):Lim (fun n=>s n-t n) (x-y):=h.add k.neg
theorem Lim.le {s:Nat->Re} {x c:Re} (h:Lim s x) (k:∃M,∀n,M<=n->s n<=c):x<=c:=by
 have:x-c<=0:=lt_of_eps fun e he=>by
  obtain ⟨N,hN⟩:=h e he
  obtain ⟨M,hM⟩:=k
  have a:=(of_abs (hN (max N M) (by omega))).1
  have b:=hM (max N M) (by omega)
  generalize s (max N M)=z at *
  exact zaa [x,c,e,z] (pn (sn a) (sn b))
 exact zaa [x,c] (sn this)
theorem Lim.ge {s:Nat->Re} {x c:Re} (h:Lim s x) (k:∃M,∀n,M<=n->c<=s n):c<=x:=by
 obtain ⟨M,hM⟩:=k
 have:=h.neg.le (c:= -c) ⟨M,fun n hn=>by have:=hM n hn;generalize s n=u at *;exact zaa [u,c] (sn this)⟩
 exact zaa [x,c] (sn this)
theorem Lim.absle {s:Nat->Re} {x c:Re} (h:Lim s x) (k:∃M,∀n,M<=n->abs (s n)<=c):abs x<=c:=by
 obtain ⟨M,hM⟩:=k
 exact abs_le (h.ge ⟨M,fun n hn=>(of_abs (hM n hn)).1⟩) (h.le ⟨M,fun n hn=>(of_abs (hM n hn)).2⟩)
theorem Lim.tail {s:Nat->Re} {x:Re} (h:Lim s x) (k:Nat):Lim (fun n=>s (n+k)) x:=by
 intro e he
 obtain ⟨N,hN⟩:=h e he
 exact ⟨N,fun n hn=>hN (n+k) (by omega)⟩
theorem nat_grow {k n:Nat} (h:k<=n):(rat (1/((n:Rat)+1)):Re)<=rat (1/((k:Rat)+1)):=by
 rw [rat_le]
 have h1:(k:Rat)<=(n:Rat):=Rat.natCast_le_natCast.2 h
 have h0:(0:Rat)<=(k:Rat):=Rat.natCast_nonneg
 have p1:0<(n:Rat)+1:=by grind
 have p2:0<(k:Rat)+1:=by grind
 refine Rat.le_of_mul_le_mul_right (c:=((n:Rat)+1)*((k:Rat)+1)) ?_ (Rat.mul_pos p1 p2)
 have e1:1/((n:Rat)+1)*((n:Rat)+1)=1:=Rat.div_mul_cancel (by grind)
 have e2:1/((k:Rat)+1)*((k:Rat)+1)=1:=Rat.div_mul_cancel (by grind)
 generalize 1/((n:Rat)+1)=p at *
 generalize 1/((k:Rat)+1)=q at *
 generalize (n:Rat)=n' at *
 generalize (k:Rat)=k' at *
 have f1:p*((n'+1)*(k'+1))=k'+1:=by grind
 have f2:q*((n'+1)*(k'+1))=n'+1:=by grind
 rw [f1,f2];grind
theorem eps_nat {e:Re} (he:0<e):∃n:Nat,rat (1/((n:Rat)+1))<=e:=by
 obtain ⟨n,hn⟩:=arch (1/e)
 refine ⟨n,?_⟩
 rw [div_lt he] at hn
 have h0:(0:Rat)<=(n:Rat):=Rat.natCast_nonneg
 have p1:0<(n:Rat)+1:=by grind
 have e1:rat (1/((n:Rat)+1))*rat ((n:Rat)+1)=1:=by
  rw [<- rat_mul,Rat.div_mul_cancel (by grind)];rfl
 refine zdh (rat_p p1) ?_
 rw [e1,rat_add,show rat 1=(1:Re) from rfl]
 generalize rat (n:Rat)=r at *
 exact zaa [r,e] (pn (le_of_lt (sp hn)) (le_of_lt he))
theorem complete {s:Nat->Re} (h:∀e:Re,0<e->∃N,∀m n,N<=m->N<=n->s m-s n<=e):∃x,Lim s x:=by
 have hq:∀n:Nat,∃q:Rat,s n-rat q<rat (1/((n:Rat)+1))/\rat q-s n<rat (1/((n:Rat)+1)):=fun n=>
  near_rat (s n) (by have h0:(0:Rat)<=(n:Rat):=Rat.natCast_nonneg;exact div_pos (by decide) (by grind))
 let q:Nat->Rat:=fun n=>Classical.choose (hq n)
 have q1:∀n,s n-rat (q n)<rat (1/((n:Rat)+1)):=fun n=>(Classical.choose_spec (hq n)).1
 have q2:∀n,rat (q n)-s n<rat (1/((n:Rat)+1)):=fun n=>(Classical.choose_spec (hq n)).2
 generalize q=q at q1 q2
 have key:∀e:Re,0<e->∃N,∀m n,N<=m->N<=n->rat (q m)-rat (q n)<e:=by
  intro e he
  have he4:0<e*rat (1/4):=mp he (qp _)
  obtain ⟨N,hN⟩:=h _ he4
  obtain ⟨k,hk⟩:=eps_nat he4
  refine ⟨max N k,fun m n hm hn=>?_⟩
  have a:=hN m n (by omega) (by omega)
  have b1:=le_of_lt (q2 m)
  have b2:=le_of_lt (q1 n)
  have c1:=le_trans b1 (le_trans (nat_grow (show k<=m by omega)) hk)
  have c2:=le_trans b2 (le_trans (nat_grow (show k<=n by omega)) hk)
  generalize rat (q m)=u at *
  generalize rat (q n)=v at *
  generalize s m=x at *
  generalize s n=y at *
  exact lt_by [u,v,x,y,e] (ppn he4 (pn (pn (sn c1) (sn c2)) (sn a)))
 have hc:Cau q:=by
  intro d hd
  obtain ⟨N,hN⟩:=key (rat d) (rat_p hd)
  refine ⟨N,fun m n hm hn=>?_⟩
  have:=hN m n hm hn
  rw [sub_eq,<- rat_neg,<- rat_add,rat_lt] at this
  grind
 refine ⟨mk ⟨q,hc⟩,fun e he=>?_⟩
 have he2:=halfp he
 -- a rational number below e / 2
 obtain ⟨j,hj⟩:=eps_nat he2
 have hjp:0<1/((j:Rat)+1):=by have h0:(0:Rat)<=(j:Rat):=Rat.natCast_nonneg;exact div_pos (by decide) (by grind)
 obtain ⟨N,hN⟩:=hc _ hjp
 obtain ⟨k,hk⟩:=eps_nat he2
 refine ⟨max N k,fun n hn=>?_⟩
 have l1:rat (q n)-mk ⟨q,hc⟩<=rat (1/((j:Rat)+1)):=by
  rintro ⟨f,hf,M,hM⟩
  have a:=hM (max N M) (by omega)
  have b:=hN n (max N M) (by omega) (by omega)
  simp only [CS.add,CS.neg,CS.con] at a
  grind
 have l2:mk ⟨q,hc⟩-rat (q n)<=rat (1/((j:Rat)+1)):=by
  rintro ⟨f,hf,M,hM⟩
  have a:=hM (max N M) (by omega)
  have b:=hN (max N M) n (by omega) (by omega)
  simp only [CS.add,CS.neg,CS.con] at a
  grind
 have m1:=le_trans l1 hj
 have m2:=le_trans l2 hj
 have c1:=le_trans (le_of_lt (q1 n)) (le_trans (nat_grow (show k<=n by omega)) hk)
 have c2:=le_trans (le_of_lt (q2 n)) (le_trans (nat_grow (show k<=n by omega)) hk)
 generalize mk ⟨q,hc⟩=L at *
 generalize rat (q n)=u at *
 generalize s n=x at *
 exact abs_le (zaa [x,L,u,e] (pn (sn m2) (sn c2))) (zaa [x,L,u,e] (pn (sn m1) (sn c1)))
theorem two_grow (n:Nat):(n:Rat)<=(2:Rat)^n:=by
 induction n with
 | zero=>decide
 | succ n ih=>
  rw [Rat.pow_succ,show ((n+1:Nat):Rat)=(n:Rat)+1 from Rat.natCast_add n 1]
  rcases n with _|n
  ·decide +kernel
  ·rw [show ((n+1:Nat):Rat)=(n:Rat)+1 from Rat.natCast_add n 1] at *
   have h0:(0:Rat)<=(n:Rat):=Rat.natCast_nonneg
   grind
open Classical in
def bis (f:Re->Re) (a b:Re):Nat->Re×Re
 | 0=>(a,b)
 | n+1=>let p:=bis f a b n;let m:=(p.1+p.2)*rat (1/2);if f m<=0 then (m,p.2) else (p.1,m)
theorem bis_step (f:Re->Re) (a b:Re) (n:Nat) (h:(bis f a b n).1<=(bis f a b n).2):
  (bis f a b n).1<=(bis f a b (n+1)).1/\(bis f a b (n+1)).2<=(bis f a b n).2/\(bis f a b (n+1)).1<=(bis f a b (n+1)).2 /\
   (bis f a b (n+1)).2-(bis f a b (n+1)).1=((bis f a b n).2-(bis f a b n).1)*rat (1/2):=by
 simp only [bis]
 generalize bis f a b n=p at *
 obtain ⟨u,v⟩:=p
 simp only at *
 have h2:=mn (sn h) (qn (1/2))
 by_cases k:f ((u+v)*rat (1/2))<=0
 ·rw [if_pos k];exact ⟨zaa [u,v] h2,le_refl _,zaa [u,v] h2,ring [u,v]⟩
 ·rw [if_neg k];exact ⟨le_refl _,zaa [u,v] h2,zaa [u,v] h2,ring [u,v]⟩
theorem bis_le (f:Re->Re) {a b:Re} (h:a<=b) (n:Nat):(bis f a b n).1<=(bis f a b n).2:=by
 induction n with
 | zero=>exact h
 | succ n ih=>exact (bis_step f a b n ih).2.2.1
theorem bis_mono (f:Re->Re) {a b:Re} (h:a<=b) (n m:Nat):(bis f a b n).1<=(bis f a b (n+m)).1/\(bis f a b (n+m)).2<=(bis f a b n).2:=by
 induction m with
 | zero=>exact ⟨le_refl _,le_refl _⟩
 | succ m ih=>
  have:=bis_step f a b (n+m) (bis_le f h _)
  exact ⟨le_trans ih.1 this.1,le_trans this.2.1 ih.2⟩
theorem bis_width (f:Re->Re) {a b:Re} (h:a<=b) (n:Nat):((bis f a b n).2-(bis f a b n).1)*rat ((2:Rat)^n)=b-a:=by
 induction n with
 | zero=>show (b-a)*rat 1=b-a;exact mul_one _
 | succ n ih=>
  rw [(bis_step f a b n (bis_le f h n)).2.2.2,Rat.pow_succ,rat_mul,<- ih]
  generalize (bis f a b n).2-(bis f a b n).1=w
  generalize rat ((2:Rat)^n)=t
  exact ring [w,t]
theorem bis_sign (f:Re->Re) {a b:Re} (ha:f a<=0) (hb:0<=f b) (n:Nat):f (bis f a b n).1<=0/\0<=f (bis f a b n).2:=by
 induction n with
 | zero=>exact ⟨ha,hb⟩
 | succ n ih=>
  simp only [bis]
  generalize bis f a b n=p at *
  by_cases k:f ((p.1+p.2)*rat (1/2))<=0
  ·rw [if_pos k];exact ⟨k,ih.2⟩
  ·rw [if_neg k];exact ⟨ih.1,le_of_lt (not_le.1 k)⟩
theorem zero_of {f:Re->Re} {a b K:Re} (h:a<=b) (hK:0<=K) (hl:∀x y,a<=x->x<=b->a<=y->y<=b->abs (f x-f y)<=K*abs (x-y))
  (ha:f a<=0) (hb:0<=f b):∃c,a<=c/\c<=b/\f c=0:=by
 have hw:∀e:Re,0<e->∃N,∀n,N<=n->(bis f a b n).2-(bis f a b n).1<=e:=by
  intro e he
  obtain ⟨N,hN⟩:=arch ((b-a)/e)
  refine ⟨N,fun n hn=>?_⟩
  rw [div_lt he] at hN
  have h2:rat (N:Rat)<=rat ((2:Rat)^n):=rat_le.2 (Rat.le_trans (Rat.natCast_le_natCast.2 hn) (two_grow n))
  have h3:=bis_width f h n
  refine zdh (z:=rat ((2:Rat)^n)) (rat_p (Rat.pow_pos (by decide))) ?_
  rw [h3]
  generalize rat ((2:Rat)^n)=t at *
  generalize rat (N:Rat)=r at *
  exact zaa [e,t,r,a,b] (pn (le_of_lt (sp hN)) (mn (sn h2) (le_of_lt he)))
 have hc:∀e:Re,0<e->∃N,∀m n,N<=m->N<=n->(bis f a b m).1-(bis f a b n).1<=e:=by
  intro e he
  obtain ⟨N,hN⟩:=hw e he
  refine ⟨N,fun m n hm hn=>?_⟩
  have w:=hN N (Nat.le_refl N)
  obtain ⟨i,rfl⟩:=Nat.exists_eq_add_of_le hm
  obtain ⟨j,rfl⟩:=Nat.exists_eq_add_of_le hn
  have p:=bis_mono f h N i
  have q:=bis_mono f h N j
  have r:=bis_le f h (N+i)
  generalize (bis f a b (N+i)).1=x1 at *
  generalize (bis f a b (N+i)).2=x2 at *
  generalize (bis f a b (N+j)).1=y1 at *
  generalize (bis f a b N).1=z1 at *
  generalize (bis f a b N).2=z2 at *
  exact zaa [x1,x2,y1,z1,z2,e] (pn (pn (pn (sn r) (sn p.2)) (sn q.1)) (sn w))
 obtain ⟨c,hlim⟩:=complete hc
 have m0:∀n,a<=(bis f a b n).1/\(bis f a b n).2<=b:=fun n=>by have:=bis_mono f h 0 n;rw [Nat.zero_add] at this;exact this
 have ca:a<=c:=hlim.ge ⟨0,fun n _=>(m0 n).1⟩
 have cb:c<=b:=hlim.le ⟨0,fun n _=>le_trans (bis_le f h n) (m0 n).2⟩
 refine ⟨c,ca,cb,?_⟩
 have hK1:0<1+K:=ppn (qp 1) hK
 refine abs_eq_zero (lt_of_eps fun e he=>?_)
 have he2:0<e/(1+K)*rat (1/2):=halfp (div_p he hK1)
 have hee:e/(1+K)*(1+K)=e:=div_mul (ne_of_gt hK1)
 obtain ⟨N,hN⟩:=hlim _ he2
 obtain ⟨M,hM⟩:=hw _ he2
 have l1:abs ((bis f a b (max N M)).1-c)<=e/(1+K)*rat (1/2):=hN (max N M) (by omega)
 have l2:=hM (max N M) (by omega)
 have l3:=bis_le f h (max N M)
 have l4:=bis_sign f ha hb (max N M)
 have l5:=m0 (max N M)
 have u1:=hl c (bis f a b (max N M)).1 ca cb l5.1 (le_trans l3 l5.2)
 have u2:=hl c (bis f a b (max N M)).2 ca cb (le_trans l5.1 l3) l5.2
 generalize (bis f a b (max N M)).1=x at *
 generalize (bis f a b (max N M)).2=y at *
 have v1:abs (c-x)<=e/(1+K):=by
  rw [abs_comm];generalize e/(1+K)=d at *;exact zaa [abs (x-c),d] (pn (sn l1) (le_of_lt he2))
 have v2:abs (c-y)<=e/(1+K):=by
  have:=abs_tri c x y
  have t1:abs (x-y)=y-x:=by rw [abs_comm];exact zbM (sn l3)
  rw [t1,abs_comm c x] at this
  generalize e/(1+K)=d at *
  generalize abs (c-y)=g at *
  generalize abs (x-c)=k at *
  exact zaa [g,d,k,x,y] (pn (pn (sn this) (sn l1)) (sn l2))
 have w1:=of_abs (le_trans u1 (mul_le_l hK v1))
 have w2:=of_abs (le_trans u2 (mul_le_l hK v2))
 have hd:=le_of_lt (div_p he hK1)
 generalize e/(1+K)=d at *
 generalize f c=fc at *
 generalize f x=fx at *
 generalize f y=fy at *
 rw [<- hee]
 exact abs_le (zaa [fc,fy,d,K] (pn (pn (sn w2.1) (sn l4.2)) hd)) (zaa [fc,fx,d,K] (pn (pn (sn w1.2) (sn l4.1)) hd))
theorem sqrt_ex {x:Re} (h:0<=x):∃r,0<=r/\r*r=x:=by
 have hb:0<=1+x:=pn (qn 1) h
 obtain ⟨c,c1,c2,c3⟩:=zero_of (f:=fun r=>r*r-x) (a:=0) (b:=1+x) (K:=2*(1+x)) hb (mn (qn 2) hb) (by
  intro u v u1 u2 v1 v2
  show abs (u*u-x-(v*v-x))<=_
  rw [show u*u-x-(v*v-x)=(u+v)*(u-v) from ring [u,v,x],abs_mul,zbM (pn u1 v1)]
  have:=zcy (u-v)
  generalize abs (u-v)=w at *
  exact zaa [u,v,w,x] (mn (pn (sn u2) (sn v2)) this)) (zaa [x] h) (zaa [x] (pn (pn (qn 1) h) (mn h h)))
 exact ⟨c,c1,zbP c3⟩
open Classical in
def sqrt (x:Re):Re:=if h:0<=x then choose (sqrt_ex h) else 0
theorem sqrt_nn (x:Re):0<=sqrt x:=by
 by_cases h:0<=x
 ·rw [sqrt,dif_pos h];exact (Classical.choose_spec (sqrt_ex h)).1
 ·rw [sqrt,dif_neg h];exact le_refl _
theorem sqrt_sq {x:Re} (h:0<=x):sqrt x*sqrt x=x:=by
 rw [sqrt,dif_pos h];exact (Classical.choose_spec (sqrt_ex h)).2
theorem sq_le {x y:Re} (hy:0<=y) (h:x*x<=y*y):x<=y:=by
 rcases lt_or_le y x with k|k
 ·have hx:=lt_of_le_of_lt hy k
  exact absurd (lt_by [x,y] (mp (sp k) (ppn hx hy))) h
 ·exact k
theorem sq_lt {x y:Re} (hy:0<=y) (h:x*x<y*y):x<y:=by
 rcases lt_or_le x y with k|k
 ·exact k
 ·exact absurd h (mul_le hy k hy k)
theorem sq_eq {x y:Re} (hx:0<=x) (hy:0<=y) (h:x*x=y*y):x=y:=le_antisymm (sq_le hy (le_of_eq h)) (sq_le hx (le_of_eq h.symm))
theorem sqrt_pos {x:Re} (h:0<x):0<sqrt x:=by
 rcases le_iff.1 (sqrt_nn x) with k|k
 ·exact k
 ·have:=sqrt_sq (le_of_lt h)
  rw [<- k,zero_mul] at this
  exact absurd (this▸h) (lt_irrefl _)
end Go.Proofs.YtlolpmmloolieaaGreatDoor.An
namespace Go.Proofs.YtlolpmmloolieaaGreatDoor.An
theorem nat_succ (n:Nat):rat ((n+1:Nat):Rat)=rat (n:Rat)+1:=by
 rw [show ((n+1:Nat):Rat)=(n:Rat)+1 from Rat.natCast_add n 1,rat_add];rfl
theorem nat_nn (n:Nat):0<=rat (n:Rat):=rat_nn Rat.natCast_nonneg
theorem nat_p {n:Nat} (h:0<n):0<rat (n:Rat):=rat_p (Rat.natCast_pos.2 h)
theorem nat_le {m n:Nat} (h:m<=n):rat (m:Rat)<=rat (n:Rat):=rat_le.2 (Rat.natCast_le_natCast.2 h)
theorem mono2 {f:Re->Re} {a b K:Re} (h:a<=b) (hf:∀x y,a<=x->x<=y->y<=b->f x-f y<=K*((y-x)*(y-x))):f a<=f b:=by
 have key:∀n:Nat,0<n->(f a-f b)*rat n<=K*((b-a)*(b-a)):=by
  intro n hn
  have hp:=nat_p hn
  have hd:(b-a)/rat (n:Rat)*rat n=b-a:=div_mul (ne_of_gt hp)
  have h0:0<=(b-a)/rat (n:Rat):=div_n (sn h) hp
  generalize (b-a)/rat (n:Rat)=d at *
  have st:∀i:Nat,i<=n->(f a-f (a+rat i*d))<=rat i*(K*(d*d)):=by
   intro i
   induction i with
   | zero=>
    intro _
    have e:a+rat ((0:Nat):Rat)*d=a:=by show a+rat 0*d=a;exact ring [a,d]
    rw [e]
    show f a-f a<=rat 0*(K*(d*d))
    generalize f a=u
    exact le_of_eq (ring [u,K,d])
   | succ i ih=>
    intro hi
    have i1:=ih (by omega)
    have hi2:=nat_le hi
    rw [nat_succ] at *
    have i0:=nat_nn i
    generalize rat (i:Rat)=r at *
    generalize rat (n:Rat)=t at *
    have:=hf (a+r*d) (a+(r+1)*d) (zaa [a,r,d] (mn i0 h0)) (zaa [a,r,d] h0) (by
     have e:b=a+t*d:=by rw [show a+t*d=a+d*t from ring [a,t,d],hd];exact ring [a,b]
     rw [e];exact zaa [a,r,d,t] (mn (sn hi2) h0))
    generalize f (a+r*d)=u at *
    generalize f (a+(r+1)*d)=v at *
    generalize f a=w at *
    rw [show a+(r+1)*d-(a+r*d)=d from ring [a,r,d]] at this
    exact zaa [u,v,w,r,K,d] (pn (sn this) (sn i1))
  have l:=st n (Nat.le_refl n)
  generalize rat (n:Rat)=t at *
  have e:a+t*d=b:=by rw [show a+t*d=a+d*t from ring [a,t,d],hd];exact ring [a,b]
  rw [e] at l
  rw [<- hd]
  generalize f a-f b=w at *
  exact zaa [w,t,K,d] (mn (sn l) (le_of_lt hp))
 have:=le_of_eps key
 exact le_sub.2 (zaa [f a,f b] (sn this))
def Der (a b:Re) (f g:Re->Re):Prop:=∃K,0<=K/\∀x y,a<=x->x<=b->a<=y->y<=b->abs (f y-f x-g x*(y-x))<=K*((y-x)*(y-x))
theorem Der.congr {a b:Re} {f g f' g':Re->Re} (h:Der a b f g) (h1:∀x,a<=x->x<=b->f x=f' x) (h2:∀x,a<=x->x<=b->g x=g' x):Der a b f' g':=by
 obtain ⟨K,k0,hK⟩:=h
 exact ⟨K,k0,fun x y x1 x2 y1 y2=>by rw [<- h1 x x1 x2,<- h1 y y1 y2,<- h2 x x1 x2];exact hK x y x1 x2 y1 y2⟩
theorem Der.mono {a b:Re} {f g:Re->Re} (h:Der a b f g) (hg:∀x,a<=x->x<=b->0<=g x) (hab:a<=b):f a<=f b:=by
 obtain ⟨K,k0,hK⟩:=h
 refine mono2 (K:=K) hab fun x y x1 xy y2=>?_
 have:=(of_abs (hK x y x1 (le_trans xy y2) (le_trans x1 xy) y2)).1
 have p:=mn (hg x x1 (le_trans xy y2)) (sn xy)
 generalize f x=u at *
 generalize f y=v at *
 generalize g x=w at *
 exact zaa [u,v,w,x,y,K] (pn (sn this) p)
theorem Der.neg {a b:Re} {f g:Re->Re} (h:Der a b f g):Der a b (fun x=> - f x) (fun x=> - g x):=by
 obtain ⟨K,k0,hK⟩:=h
 refine ⟨K,k0,fun x y x1 x2 y1 y2=>?_⟩
 have:=hK x y x1 x2 y1 y2
 rw [<- abs_neg] at this
 show abs (-f y - -f x - -g x*(y-x))<=_
 generalize f x=u at *
 generalize f y=v at *
 generalize g x=w at *
 rwa [show -(v-u-w*(y-x))= -v - -u - -w*(y-x) from ring [u,v,w,x,y]] at this
theorem Der.add {a b:Re} {f g f' g':Re->Re} (h:Der a b f g) (k:Der a b f' g'):Der a b (fun x=>f x+f' x) (fun x=>g x+g' x):=by
 obtain ⟨K,k0,hK⟩:=h
 obtain ⟨L,l0,hL⟩:=k
 refine ⟨K+L,pn k0 l0,fun x y x1 x2 y1 y2=>?_⟩
 have h1:=le_trans (abs_add _ _) (zeI (hK x y x1 x2 y1 y2) (hL x y x1 x2 y1 y2))
 show abs (f y+f' y-(f x+f' x)-(g x+g' x)*(y-x))<=_
 generalize f x=u at *
 generalize f y=v at *
 generalize g x=w at *
 generalize f' x=u' at *
 generalize f' y=v' at *
 generalize g' x=w' at *
 rwa [show v-u-w*(y-x)+(v'-u'-w'*(y-x))=v+v'-(u+u')-(w+w')*(y-x) from ring [u,v,w,u',v',w',x,y],
  show K*((y-x)*(y-x))+L*((y-x)*(y-x))=(K+L)*((y-x)*(y-x)) from ring [x,y,K,L]] at h1
theorem Der.id (a b:Re):Der a b (fun x=>x) (fun _=>1):=⟨0,le_refl _,fun x y _ _ _ _=>by
 rw [show y-x-1*(y-x)=0 from ring [x,y],abs_zero];exact zaa [x,y] (le_refl 0)⟩
theorem Der.smul {a b:Re} {f g:Re->Re} (c:Re) (h:Der a b f g):Der a b (fun x=>c*f x) (fun x=>c*g x):=by
 obtain ⟨K,k0,hK⟩:=h
 refine ⟨abs c*K,mn (zcy c) k0,fun x y x1 x2 y1 y2=>?_⟩
 have:=mul_le_l (zcy c) (hK x y x1 x2 y1 y2)
 show abs (c*f y-c*f x-c*g x*(y-x))<=_
 rw [<- abs_mul,<- mul_assoc] at this
 generalize f x=u at *
 generalize f y=v at *
 generalize g x=w at *
 rwa [show c*(v-u-w*(y-x))=c*v-c*u-c*w*(y-x) from ring [c,u,v,w,x,y]] at this
theorem Der.bdd {a b:Re} {f g:Re->Re} (h:Der a b f g) (hab:a<=b):∃L,0<=L/\(∀x,a<=x->x<=b->abs (g x)<=L):=by
 obtain ⟨K,k0,hK⟩:=h
 refine ⟨abs (g a)+2*K*(b-a),pn (zcy _) (mn (mn (qn 2) k0) (sn hab)),fun x x1 x2=>?_⟩
 rcases le_iff.1 x1 with k|k
 ·have h1:=hK a x (le_refl a) hab x1 x2
  have h2:=hK x a x1 x2 (le_refl a) hab
  have h3:=le_trans (abs_add _ _) (zeI h1 h2)
  have hp:=sp k
  have e:abs (g x-g a)<=2*K*(x-a):=by
   refine zdh hp ?_
   have e1:abs (g x-g a)*(x-a)=abs ((g x-g a)*(x-a)):=by rw [abs_mul,zbM (le_of_lt hp)]
   rw [e1]
   generalize f x=u at *
   generalize f a=v at *
   generalize g x=w at *
   generalize g a=t at *
   rwa [show u-v-t*(x-a)+(v-u-w*(a-x))=(w-t)*(x-a) from ring [u,v,w,t,x,a],
    show K*((x-a)*(x-a))+K*((a-x)*(a-x))=2*K*(x-a)*(x-a) from ring [x,a,K]] at h3
  have t:=abs_add (g a) (g x-g a)
  rw [show g a+(g x-g a)=g x from by generalize g x=u;generalize g a=v;exact ring [u,v]] at t
  generalize abs (g x)=p at *
  generalize abs (g a)=q at *
  generalize abs (g x-g a)=r at *
  exact zaa [p,q,r,a,b,x,K] (pn (pn (sn t) (sn e)) (mn (mn (qn 2) k0) (sn x2)))
 ·subst k
  generalize abs (g a)=q at *
  exact zaa [q,K,a,b] (mn (mn (qn 2) k0) (sn hab))
theorem Der.lip {a b:Re} {f g:Re->Re} (h:Der a b f g) (hab:a<=b):∃L,0<=L/\∀x y,a<=x->x<=b->a<=y->y<=b->abs (f x-f y)<=L*abs (x-y):=by
 obtain ⟨M,m0,hM⟩:=h.bdd hab
 obtain ⟨K,k0,hK⟩:=h
 refine ⟨M+K*(b-a),pn m0 (mn k0 (sn hab)),fun x y x1 x2 y1 y2=>?_⟩
 have h1:=hK y x y1 y2 x1 x2
 have h2:=abs_add (f x-f y-g y*(x-y)) (g y*(x-y))
 rw [abs_mul] at h2
 have h3:=hM y y1 y2
 have h4:abs (x-y)<=b-a:=abs_le (zaa [x,y,a,b] (pn (sn x1) (sn y2))) (zaa [x,y,a,b] (pn (sn x2) (sn y1)))
 rw [<- abs_sq] at h1
 rw [show f x-f y-g y*(x-y)+g y*(x-y)=f x-f y from by generalize f x=u;generalize f y=v;generalize g y=w;exact ring [u,v,w,x,y]] at h2
 have h5:=zcy (x-y)
 generalize abs (f x-f y-g y*(x-y))=p at *
 generalize abs (f x-f y)=q at *
 generalize abs (x-y)=d at *
 generalize abs (g y)=w at *
 exact zaa [p,q,d,w,M,K,a,b] (pn (pn (sn h2) (sn h1)) (pn (mn (sn h3) h5) (mn (mn k0 h5) (sn h4))))
theorem Der.fbdd {a b:Re} {f g:Re->Re} (h:Der a b f g) (hab:a<=b):∃L,0<=L/\(∀x,a<=x->x<=b->abs (f x)<=L):=by
 obtain ⟨M,m0,hM⟩:=h.lip hab
 refine ⟨abs (f a)+M*(b-a),pn (zcy _) (mn m0 (sn hab)),fun x x1 x2=>?_⟩
 have h1:=hM x a x1 x2 (le_refl a) hab
 have h2:=abs_add (f a) (f x-f a)
 rw [show f a+(f x-f a)=f x from by generalize f x=u;generalize f a=v;exact ring [u,v]] at h2
 rw [zbM (sn x1)] at h1
 generalize abs (f x)=p at *
 generalize abs (f a)=q at *
 generalize abs (f x-f a)=r at *
 exact zaa [p,q,r,M,a,b,x] (pn (pn (sn h2) (sn h1)) (mn m0 (sn x2)))
theorem Der.mul {a b:Re} {f g f' g':Re->Re} (h:Der a b f g) (k:Der a b f' g') (hab:a<=b):Der a b (fun x=>f x*f' x) (fun x=>g x*f' x+f x*g' x):=by
 obtain ⟨A,a0,hA⟩:=h.fbdd hab
 obtain ⟨B,b0,hB⟩:=k.fbdd hab
 obtain ⟨C,c0,hC⟩:=h.lip hab
 obtain ⟨D,d0,hD⟩:=k.lip hab
 obtain ⟨K,k0,hK⟩:=h
 obtain ⟨L,l0,hL⟩:=k
 refine ⟨B*K+A*L+C*D,pn (pn (mn b0 k0) (mn a0 l0)) (mn c0 d0),fun x y x1 x2 y1 y2=>?_⟩
 have p1:=zew (hB x x1 x2) (hK x y x1 x2 y1 y2)
 have p2:=zew (hA x x1 x2) (hL x y x1 x2 y1 y2)
 have p3:=zew (hC y x y1 y2 x1 x2) (hD y x y1 y2 x1 x2)
 have q:=le_trans (abs_add _ _) (zeI (le_trans (abs_add _ _) (zeI p1 p2)) p3)
 show abs (f y*f' y-f x*f' x-(g x*f' x+f x*g' x)*(y-x))<=_
 have e3:=abs_sq (y-x)
 generalize abs (y-x)=d at *
 generalize f x=u at *
 generalize f y=v at *
 generalize g x=w at *
 generalize f' x=u' at *
 generalize f' y=v' at *
 generalize g' x=w' at *
 rw [show u'*(v-u-w*(y-x))+u*(v'-u'-w'*(y-x))+(v-u)*(v'-u')=v*v'-u*u'-(w*u'+u*w')*(y-x) from ring [u,v,w,u',v',w',x,y]] at q
 refine le_trans q (le_of_eq ?_)
 rw [<- e3]
 exact ring [A,B,C,D,K,L,d]
theorem Der.zero {a b:Re} {f:Re->Re} (h:Der a b f (fun _=>0)) (hab:a<=b):f b=f a:=by
 have h1:=h.mono (fun _ _ _=>le_refl 0) hab
 have h2:=h.neg.mono (fun _ _ _=>zaa [] (le_refl 0)) hab
 exact le_antisymm (zaa [f a,f b] (sn h2)) h1
theorem Der.le {a b:Re} {f g f' g':Re->Re} (h:Der a b f g) (k:Der a b f' g') (hab:a<=b) (hg:∀x,a<=x->x<=b->g x<=g' x):f b-f a<=f' b-f' a:=by
 have:=(k.add h.neg).mono (fun x x1 x2=>zaa [g x,g' x] (sn (hg x x1 x2))) hab
 exact zaa [f a,f b,f' a,f' b] (sn this)
end Go.Proofs.YtlolpmmloolieaaGreatDoor.An
namespace Go.Proofs.YtlolpmmloolieaaGreatDoor.An
def mon (x:Re):Nat->Re
 | 0=>1
 | n+1=>mon x n*x*rat (1/((n+1:Nat):Rat))
theorem inv_nat (n:Nat):rat ((n+1:Nat):Rat)*rat (1/((n+1:Nat):Rat))=1:=by
 have h:(0:Rat)<((n+1:Nat):Rat):=Rat.natCast_pos.2 (Nat.succ_pos n)
 rw [<- rat_mul,Rat.mul_comm,Rat.div_mul_cancel (by grind)];rfl
theorem mon_succ (x:Re) (n:Nat):rat ((n+1:Nat):Rat)*mon x (n+1)=mon x n*x:=by
 have:=inv_nat n
 simp only [mon]
 generalize rat ((n+1:Nat):Rat)=a at *
 generalize rat (1/((n+1:Nat):Rat))=b at *
 generalize mon x n=m
 exact eq_by [a,b,m,x] (congrArg (fun t=>m*x*t) this:m*x*(a*b)=m*x*1)
theorem inv_nat_p (n:Nat):0<rat (1/((n+1:Nat):Rat)):=by
 have h:(0:Rat)<((n+1:Nat):Rat):=Rat.natCast_pos.2 (Nat.succ_pos n)
 exact rat_p (div_pos (by decide) h)
theorem mon_nn {M:Re} (h:0<=M) (n:Nat):0<=mon M n:=by
 induction n with
 | zero=>exact qn 1
 | succ n ih=>exact mn (mn ih h) (le_of_lt (inv_nat_p n))
theorem mon_abs {x M:Re} (h:abs x<=M) (n:Nat):abs (mon x n)<=mon M n:=by
 induction n with
 | zero=>exact le_of_eq (zbM (qn 1))
 | succ n ih=>
  have:=inv_nat_p n
  exact zew (zew ih h) (le_of_eq (zbM (le_of_lt this)))
theorem mon_half {M:Re} (h:0<=M) {k n:Nat} (hk:2*M<=rat ((k+1:Nat):Rat)) (hn:k<=n):mon M (n+1)<=mon M n*rat (1/2):=by
 have h1:=mon_succ M n
 have h2:rat ((k+1:Nat):Rat)<=rat ((n+1:Nat):Rat):=nat_le (by omega)
 have h3:=mon_nn h n
 have h4:0<rat ((n+1:Nat):Rat):=nat_p (Nat.succ_pos n)
 refine zdh h4 ?_
 rw [mul_comm,h1]
 generalize rat ((n+1:Nat):Rat)=t at *
 generalize rat ((k+1:Nat):Rat)=s at *
 generalize mon M n=m at *
 exact zaa [m,M,s,t] (mn (mn h3 (pn (sn hk) (sn h2))) (qn (1/2)))
theorem mon_small {M:Re} (h:0<=M) {k:Nat} (hk:2*M<=rat ((k+1:Nat):Rat)) {e:Re} (he:0<e):∃N,k<=N/\mon M N<=e:=by
 have hp:∀j,mon M (k+j)*rat ((2:Rat)^j)<=mon M k:=by
  intro j
  induction j with
  | zero=>exact le_of_eq (mul_one _)
  | succ j ih=>
   have:=mon_half h hk (show k<=k+j by omega)
   rw [Rat.pow_succ,rat_mul]
   have hp:0<rat ((2:Rat)^j):=rat_p (Rat.pow_pos (by decide))
   show mon M (k+j+1)*_<=_
   generalize rat ((2:Rat)^j)=t at *
   generalize mon M (k+j)=u at *
   generalize mon M (k+j+1)=v at *
   generalize mon M k=w at *
   exact zaa [t,u,v,w] (pn (sn ih) (mn (mn (sn this) (le_of_lt hp)) (qn 2)))
 obtain ⟨j,hj⟩:=arch (mon M k/e)
 rw [div_lt he] at hj
 refine ⟨k+j,by omega,?_⟩
 have h2:rat (j:Rat)<=rat ((2:Rat)^j):=rat_le.2 (two_grow j)
 have h3:=hp j
 have h4:0<rat ((2:Rat)^j):=rat_p (Rat.pow_pos (by decide))
 refine zdh h4 ?_
 generalize rat ((2:Rat)^j)=t at *
 generalize rat (j:Rat)=r at *
 generalize mon M (k+j)=u at *
 generalize mon M k=w at *
 exact zaa [t,u,w,r,e] (pn (pn (sn h3) (le_of_lt (sp hj))) (mn (sn h2) (le_of_lt he)))
def Co (c:Nat->Rat):Prop:=∀n,abs (rat (c n))<=1
def psum (c:Nat->Rat) (x:Re):Nat->Re
 | 0=>0
 | n+1=>psum c x n+rat (c n)*mon x n
theorem psum_succ (c:Nat->Rat) (x:Re) (n:Nat):psum c x (n+1)=psum c x n+rat (c n)*mon x n:=rfl
theorem psum_tail {c:Nat->Rat} (hc:Co c) {x M:Re} (hx:abs x<=M) {i:Nat} (hi:2*M<=rat ((i+1:Nat):Rat)) (j:Nat):
  abs (psum c x (i+j)-psum c x i)+2*mon M (i+j)<=2*mon M i:=by
 have hM:=le_trans (zcy x) hx
 induction j with
 | zero=>
  show abs (psum c x i-psum c x i)+2*mon M i<=_
  rw [show psum c x i-psum c x i=0 from by generalize psum c x i=u;exact ring [u],abs_zero,zero_add];exact le_refl _
 | succ j ih=>
  have h1:=mon_half hM hi (show i<=i+j by omega)
  have h2:=zew (hc (i+j)) (mon_abs hx (i+j))
  have h3:=abs_add (psum c x (i+j)-psum c x i) (rat (c (i+j))*mon x (i+j))
  show abs (psum c x (i+j)+rat (c (i+j))*mon x (i+j)-psum c x i)+2*mon M (i+j+1)<=_
  generalize rat (c (i+j))*mon x (i+j)=t at *
  generalize psum c x (i+j)=u at *
  generalize psum c x i=v at *
  rw [show u-v+t=u+t-v from ring [u,v,t]] at h3
  generalize abs (u+t-v)=A at *
  generalize abs (u-v)=B at *
  generalize abs t=C at *
  generalize mon M (i+j+1)=m2 at *
  generalize mon M (i+j)=m1 at *
  generalize mon M i=m0 at *
  exact zaa [A,B,C,m0,m1,m2] (pn (pn (pn (sn h3) (sn h2)) (sn ih)) (mn (qn 2) (sn h1)))
theorem psum_tail' {c:Nat->Rat} (hc:Co c) {x M:Re} (hx:abs x<=M) {i n:Nat} (hi:2*M<=rat ((i+1:Nat):Rat)) (hn:i<=n):
  abs (psum c x n-psum c x i)<=2*mon M i:=by
 obtain ⟨j,rfl⟩:=Nat.exists_eq_add_of_le hn
 have h1:=psum_tail hc hx hi j
 have h2:=mon_nn (le_trans (zcy x) hx) (i+j)
 generalize abs (psum c x (i+j)-psum c x i)=A at *
 generalize mon M (i+j)=m1 at *
 generalize mon M i=m0 at *
 exact zaa [A,m0,m1] (pn (sn h1) (mn (qn 2) h2))
theorem big (M:Re):∃k:Nat,2*M<=rat ((k+1:Nat):Rat):=by
 obtain ⟨k,hk⟩:=arch (2*M)
 exact ⟨k,le_trans (le_of_lt hk) (nat_le (by omega))⟩
theorem ser_ex {c:Nat->Rat} (hc:Co c) (x:Re):∃L,Lim (psum c x) L:=by
 obtain ⟨k,hk⟩:=big (abs x)
 refine complete fun e he=>?_
 obtain ⟨N,hN,hm⟩:=mon_small (zcy x) hk (mp he (qp (1/4)))
 have hN2:2*abs x<=rat ((N+1:Nat):Rat):=le_trans hk (nat_le (by omega))
 refine ⟨N,fun m n hm' hn'=>?_⟩
 have a:=(of_abs (psum_tail' hc (le_refl (abs x)) hN2 hm')).2
 have b:=(of_abs (psum_tail' hc (le_refl (abs x)) hN2 hn')).1
 generalize psum c x m=u at *
 generalize psum c x n=v at *
 generalize psum c x N=w at *
 generalize mon (abs x) N=t at *
 exact zaa [u,v,w,t,e] (pn (pn (sn a) (sn b)) (mn (qn 4) (sn hm)))
open Classical in
def ser (c:Nat->Rat) (x:Re):Re:=if h:∃L,Lim (psum c x) L then choose h else 0
theorem ser_lim {c:Nat->Rat} (hc:Co c) (x:Re):Lim (psum c x) (ser c x):=by
 rw [ser,dif_pos (ser_ex hc x)];exact Classical.choose_spec (ser_ex hc x)
theorem ser_tail {c:Nat->Rat} (hc:Co c) {x M:Re} (hx:abs x<=M) {i:Nat} (hi:2*M<=rat ((i+1:Nat):Rat)):abs (ser c x-psum c x i)<=2*mon M i:=
 ((ser_lim hc x).sub (Lim.const (psum c x i))).absle ⟨i,fun n hn=>psum_tail' hc hx hi hn⟩
theorem ser_zero {c:Nat->Rat} (hc:Co c):ser c 0=rat (c 0):=by
 refine (ser_lim hc 0).unique fun e he=>⟨1,fun n hn=>?_⟩
 have:∀n,psum c 0 (n+1)=rat (c 0):=by
  intro n
  induction n with
  | zero=>show 0+rat (c 0)*1=_;generalize rat (c 0)=r;exact ring [r]
  | succ n ih=>
   rw [psum_succ,ih]
   show rat (c 0)+rat (c (n+1))*(mon 0 n*0*_)=_
   rw [mul_zero,zero_mul,mul_zero,add_zero]
 obtain ⟨m,rfl⟩:∃m,n=m+1:=⟨n-1,by omega⟩
 rw [this,show rat (c 0)-rat (c 0)=0 from by generalize rat (c 0)=r;exact ring [r],abs_zero]
 exact le_of_lt he
def sh (c:Nat->Rat):Nat->Rat:=fun n=>c (n+1)
theorem Co.sh {c:Nat->Rat} (h:Co c):Co (sh c):=fun n=>h (n+1)
theorem ser_neg {c d:Nat->Rat} (hc:Co c) (hd:Co d) (h:∀n,d n= - c n) (x:Re):ser d x= - ser c x:=by
 have:∀n,psum d x n= - psum c x n:=by
  intro n
  induction n with
  | zero=>show (0:Re)= -0;exact ring []
  | succ n ih=>
   rw [psum_succ,psum_succ,ih,h n,rat_neg]
   generalize psum c x n=u;generalize rat (c n)=r;generalize mon x n=m
   exact ring [u,r,m]
 exact (ser_lim hd x).unique ((ser_lim hc x).neg.congr fun n=>(this n).symm)
theorem mon_d {x y M:Re} (hx:abs x<=M) (hy:abs y<=M) (n:Nat):
  abs (mon y (n+2)-mon x (n+2)-mon x (n+1)*(y-x))<=mon M n*((y-x)*(y-x)):=by
 have hM:=le_trans (zcy x) hx
 induction n with
 | zero=>
  have e:mon y 2-mon x 2-mon x 1*(y-x)=(y-x)*(y-x)*rat (1/2):=by
   have a:∀z,mon z 2=z*z*rat (1/2):=fun z=>by
    show 1*z*rat (1/((1:Nat):Rat))*z*rat (1/((2:Nat):Rat))=_
    exact ring [z]
   have b:mon x 1=x:=by show 1*x*rat (1/((1:Nat):Rat))=x;exact ring [x]
   rw [a,a,b];exact ring [x,y]
  rw [e,zbM (mn (sqn _) (qn _))]
  show _<=1*_
  have:=sqn (y-x)
  generalize (y-x)*(y-x)=q at *
  exact zaa [q] (mn this (qn (1/2)))
 | succ n ih=>
  have h1:=mon_succ y (n+2)
  have h2:=mon_succ x (n+2)
  have h3:=mon_succ x (n+1)
  have h4:=mon_succ M n
  have e3:rat ((n+1+1:Nat):Rat)=rat ((n+1:Nat):Rat)+1:=nat_succ (n+1)
  have e2:rat ((n+2+1:Nat):Rat)=rat ((n+1:Nat):Rat)+2:=by rw [show (n+2+1:Nat)=(n+1+1)+1 from rfl,nat_succ,nat_succ (n+1)];generalize rat ((n+1:Nat):Rat)=t;exact ring [t]
  have hk:0<rat ((n+1:Nat):Rat):=nat_p (Nat.succ_pos n)
  have hd:=sqn (y-x)
  have hm1:=mon_abs hx (n+1)
  have hm0:=mon_nn hM n
  have hmm:=mon_nn hM (n+1)
  have b1:=zew hy ih
  have b2:=zew hm1 (le_of_eq (zbM hd))
  have b3:=le_trans (abs_add _ _) (zeI b1 b2)
  rw [e2] at h1 h2
  rw [e3] at h3
  show abs (mon y (n+2+1)-mon x (n+2+1)-mon x (n+1+1)*(y-x))<=mon M (n+1)*_
  generalize mon y (n+2+1)=y3 at *
  generalize mon x (n+2+1)=x3 at *
  generalize mon y (n+2)=y2 at *
  generalize mon x (n+2)=x2 at *
  generalize mon x (n+1)=x1 at *
  generalize mon M (n+1)=m1 at *
  generalize mon M n=m0 at *
  generalize rat ((n+1:Nat):Rat)=k at *
  have hk2:0<k+2:=pp hk (qp 2)
  refine zdh hk2 ?_
  have e4:abs (y3-x3-x2*(y-x))*(k+2)=abs (y*(y2-x2-x1*(y-x))+x1*((y-x)*(y-x))):=by
   rw [show abs (y3-x3-x2*(y-x))*(k+2)=abs (y3-x3-x2*(y-x))*abs (k+2) from by rw [zbM (le_of_lt hk2)],<- abs_mul]
   congr 1
   refine zbP ?_
   rw [show (y3-x3-x2*(y-x))*(k+2)-(y*(y2-x2-x1*(y-x))+x1*((y-x)*(y-x)))=((k+2)*y3-y2*y)-((k+2)*x3-x2*x)-(y-x)*((k+1)*x2-x1*x) from ring [x,y,x1,x2,x3,y2,y3,k],h1,h2,h3]
   exact ring [x,y,x1,x2,y2]
  rw [e4]
  refine le_trans b3 ?_
  generalize (y-x)*(y-x)=q at *
  rw [show M*(m0*q)=(m0*M)*q from ring [M,m0,q],<- h4]
  exact zaa [k,m1,q] (mn hmm hd)
def one:Nat->Rat:=fun _=>1
theorem one_co:Co one:=fun n=>le_of_eq (zbM (qn 1))
theorem psum_bdd {M:Re} (h:0<=M):∃B,0<=B/\∀N,psum one M N<=B:=by
 obtain ⟨k,hk⟩:=big M
 have up:∀N j,psum one M N<=psum one M (N+j):=by
  intro N j
  induction j with
  | zero=>exact le_refl _
  | succ j ih=>
   refine le_trans ih ?_
   have:=mon_nn h (N+j)
   show _<=psum one M (N+j)+1*mon M (N+j)
   generalize mon M (N+j)=u at *;generalize psum one M (N+j)=v at *
   exact zaa [u,v] this
 refine ⟨abs (psum one M k)+2*mon M k,pn (zcy _) (mn (qn 2) (mon_nn h k)),fun N=>?_⟩
 have h1:=up N k
 have h2:=(of_abs (psum_tail' one_co (le_of_eq (zbM h)) hk (show k<=N+k by omega))).2
 have h3:=le_abs (psum one M k)
 generalize psum one M N=u at *;generalize psum one M (N+k)=v at *;generalize abs (psum one M k)=w at *;generalize psum one M k=t at *;generalize mon M k=m at *
 exact zaa [u,v,w,t,m] (pn (pn (sn h1) (sn h2)) (sn h3))
theorem psum_d {c:Nat->Rat} (hc:Co c) {x y M:Re} (hx:abs x<=M) (hy:abs y<=M) (N:Nat):
  abs (psum c y (N+2)-psum c x (N+2)-psum (sh c) x (N+1)*(y-x))<=psum one M N*((y-x)*(y-x)):=by
 induction N with
 | zero=>
  have a:∀z,psum c z 2=rat (c 0)+rat (c 1)*z:=fun z=>by
   show 0+rat (c 0)*1+rat (c 1)*(1*z*rat (1/((1:Nat):Rat)))=_
   generalize rat (c 0)=u;generalize rat (c 1)=v;exact ring [u,v,z]
  have b:psum (sh c) x 1=rat (c 1):=by
   show 0+rat (c 1)*1=_
   generalize rat (c 1)=v;exact ring [v]
  rw [a,a,b]
  show _<=0*_
  generalize rat (c 0)=u;generalize rat (c 1)=v
  rw [show u+v*y-(u+v*x)-v*(y-x)=0 from ring [u,v,x,y],abs_zero]
  exact zaa [x,y] (le_refl 0)
 | succ N ih=>
  have h1:=mon_d hx hy N
  have h2:=zew (hc (N+2)) h1
  have h3:=le_trans (abs_add _ _) (zeI ih h2)
  show abs (psum c y (N+2)+rat (c (N+2))*mon y (N+2)-(psum c x (N+2)+rat (c (N+2))*mon x (N+2))-(psum (sh c) x (N+1)+rat (c (N+2))*mon x (N+1))*(y-x))<=(psum one M N+1*mon M N)*_
  generalize rat (c (N+2))=r at *;generalize mon y (N+2)=y2 at *;generalize mon x (N+2)=x2 at *;generalize mon x (N+1)=x1 at *
  generalize psum c y (N+2)=u at *;generalize psum c x (N+2)=v at *;generalize psum (sh c) x (N+1)=w at *
  rw [show u-v-w*(y-x)+r*(y2-x2-x1*(y-x))=u+r*y2-(v+r*x2)-(w+r*x1)*(y-x) from ring [u,v,w,r,y2,x2,x1,x,y]] at h3
  refine le_trans h3 (le_of_eq ?_)
  generalize psum one M N=p;generalize mon M N=q
  exact ring [p,q,x,y]
theorem ser_d {c:Nat->Rat} (hc:Co c) (a b:Re):Der a b (ser c) (ser (sh c)):=by
 let M:=abs a+abs b
 have hM:0<=M:=pn (zcy a) (zcy b)
 obtain ⟨B,b0,hB⟩:=psum_bdd hM
 refine ⟨B,b0,fun x y x1 x2 y1 y2=>?_⟩
 have inM:∀z,a<=z->z<=b->abs z<=M:=fun z z1 z2=>by
  have h1:=le_abs b;have h2:=neg_le_abs a;have h3:=zcy a;have h4:=zcy b
  show abs z<=abs a+abs b
  generalize abs a=p at *;generalize abs b=q at *
  exact abs_le (zaa [p,q,z,a] (pn (pn (sn h2) (sn z1)) h4)) (zaa [p,q,z,b] (pn (pn (sn h1) (sn z2)) h3))
 have hx:=inM x x1 x2
 have hy:=inM y y1 y2
 have l:=(((ser_lim hc y).tail 2).sub ((ser_lim hc x).tail 2)).sub (((ser_lim hc.sh x).tail 1).smul (y-x))
 rw [show ser c y-ser c x-(y-x)*ser (sh c) x=ser c y-ser c x-ser (sh c) x*(y-x) from by generalize ser c y=u;generalize ser c x=v;generalize ser (sh c) x=w;exact ring [u,v,w,x,y]] at l
 refine l.absle ⟨0,fun n _=>?_⟩
 have h1:=psum_d hc hx hy n
 have h2:=hB n
 have h3:=sqn (y-x)
 rw [show psum (sh c) x (n+1)*(y-x)=(y-x)*psum (sh c) x (n+1) from mul_comm _ _] at h1
 refine le_trans h1 ?_
 generalize psum one M n=p at *;generalize (y-x)*(y-x)=q at *
 exact zaa [p,q,B] (mn (sn h2) h3)
end Go.Proofs.YtlolpmmloolieaaGreatDoor.An
namespace Go.Proofs.YtlolpmmloolieaaGreatDoor.An
def sc (n:Nat):Rat:=if n%4=1 then 1 else if n%4=3 then -1 else 0
def cc (n:Nat):Rat:=if n%4=0 then 1 else if n%4=2 then -1 else 0
theorem abs_one:abs (rat 1)<=1:=le_of_eq (zbM (qn 1))
theorem abs_none:abs (rat (-1))<=1:=abs_le (num_le (-1) (-1)) (num_le (-1) 1)
theorem abs_null:abs (rat 0)<=1:=abs_le (num_le (-1) 0) (num_le 0 1)
theorem sc_co:Co sc:=fun n=>by
 unfold sc;split
 ·exact abs_one
 ·split
  ·exact abs_none
  ·exact abs_null
theorem cc_co:Co cc:=fun n=>by
 unfold cc;split
 ·exact abs_one
 ·split
  ·exact abs_none
  ·exact abs_null
theorem sh_sc:sh sc=cc:=funext fun n=>by
 simp only [sh,sc,cc]
 have h:n%4=0\/n%4=1\/n%4=2\/n%4=3:=by omega
 rcases h with h|h|h|h
 ·rw [if_pos (by omega),if_pos h]
 ·rw [if_neg (by omega),if_neg (by omega),if_neg (by omega),if_neg (by omega)]
 ·rw [if_neg (by omega),if_pos (by omega),if_neg (by omega),if_pos h]
 ·rw [if_neg (by omega),if_neg (by omega),if_neg (by omega),if_neg (by omega)]
theorem sh_cc (n:Nat):sh cc n= - sc n:=by
 simp only [sh,sc,cc]
 have h:n%4=0\/n%4=1\/n%4=2\/n%4=3:=by omega
 rcases h with h|h|h|h
 ·rw [if_neg (by omega),if_neg (by omega),if_neg (by omega),if_neg (by omega)];rfl
 ·rw [if_neg (by omega),if_pos (by omega),if_pos h]
 ·rw [if_neg (by omega),if_neg (by omega),if_neg (by omega),if_neg (by omega)];rfl
 ·rw [if_pos (by omega),if_neg (by omega),if_pos h];rfl
def sin (x:Re):Re:=ser sc x
def cos (x:Re):Re:=ser cc x
theorem sin_d (a b:Re):Der a b sin cos:=by
 have:=ser_d sc_co a b
 rwa [sh_sc] at this
theorem cos_d (a b:Re):Der a b cos (fun x=> - sin x):=
 (ser_d cc_co a b).congr (fun _ _ _=>rfl) (fun x _ _=>ser_neg sc_co cc_co.sh sh_cc x)
theorem sin_zero:sin 0=0:=ser_zero sc_co
theorem cos_zero:cos 0=1:=ser_zero cc_co
theorem Der.shift {a b:Re} (k:Re) {f g:Re->Re} (h:Der (k+a) (k+b) f g):Der a b (fun x=>f (k+x)) (fun x=>g (k+x)):=by
 obtain ⟨K,k0,hK⟩:=h
 refine ⟨K,k0,fun x y x1 x2 y1 y2=>?_⟩
 have:=hK (k+x) (k+y) (zeI (le_refl k) x1) (zeI (le_refl k) x2) (zeI (le_refl k) y1) (zeI (le_refl k) y2)
 rwa [show k+y-(k+x)=y-x from ring [k,x,y]] at this
theorem Der.flip {a b:Re} {f g:Re->Re} (h:Der (-b) (-a) f g):Der a b (fun x=>f (-x)) (fun x=> - g (-x)):=by
 obtain ⟨K,k0,hK⟩:=h
 refine ⟨K,k0,fun x y x1 x2 y1 y2=>?_⟩
 have:=hK (-x) (-y) (zaa [x,b] (sn x2)) (zaa [x,a] (sn x1)) (zaa [y,b] (sn y2)) (zaa [y,a] (sn y1))
 show abs (f (-y)-f (-x) - -g (-x)*(y-x))<=_
 generalize f (-y)=u at *;generalize f (-x)=v at *;generalize g (-x)=w at *
 rwa [show u-v-w*(-y - -x)=u-v - -w*(y-x) from ring [u,v,w,x,y],show (-y - -x)*(-y - -x)=(y-x)*(y-x) from ring [x,y]] at this
theorem Der.mapd {a b:Re} {f g g':Re->Re} (h:Der a b f g) (k:∀x,g x=g' x):Der a b f g':=h.congr (fun _ _ _=>rfl) (fun x _ _=>k x)
theorem const_of {f:Re->Re} (h:∀a b,Der a b f (fun _=>0)) (x y:Re):f x=f y:=by
 rcases le_total x y with k|k
 ·exact ((h x y).zero k).symm
 ·exact (h y x).zero k
theorem uniq {f g:Re->Re} (h:∀a b,Der a b f g) (k:∀a b,Der a b g (fun x=> - f x)) (f0:f 0=0) (g0:g 0=0) (x:Re):f x=0/\g x=0:=by
 have e:f x*f x+g x*g x=f 0*f 0+g 0*g 0:=by
  refine const_of (f:=fun x=>f x*f x+g x*g x) (fun a b=>?_) x 0
  rcases le_total a b with l|l
  ·refine (((h a b).mul (h a b) l).add ((k a b).mul (k a b) l)).mapd fun x=>?_
   generalize f x=u;generalize g x=v
   exact ring [u,v]
  ·refine ⟨0,le_refl 0,fun p q p1 p2 q1 q2=>?_⟩
   have e1:p=q:=by
    have hab:=le_antisymm (le_trans p1 p2) l
    exact (le_antisymm (hab▸p2) p1).trans (le_antisymm (hab▸q2) q1).symm
   subst e1
   show abs (f p*f p+g p*g p-(f p*f p+g p*g p)-0*(p-p))<=_
   generalize f p*f p+g p*g p=u
   rw [show u-u-0*(p-p)=0 from ring [u,p],abs_zero]
   exact zaa [p] (le_refl 0)
 rw [f0,g0,show (0:Re)*0+0*0=0 from ring []] at e
 have a1:=sqn (f x)
 have a2:=sqn (g x)
 constructor
 ·refine abs_eq_zero (sq_le (le_refl 0) ?_)
  rw [abs_sq]
  generalize f x=u at *;generalize g x=v at *
  rw [show (0:Re)*0=0 from ring [],<- e];exact zaa [u,v] a2
 ·refine abs_eq_zero (sq_le (le_refl 0) ?_)
  rw [abs_sq]
  generalize f x=u at *;generalize g x=v at *
  rw [show (0:Re)*0=0 from ring [],<- e];exact zaa [u,v] a1
theorem sin_neg (x:Re):sin (-x)= - sin x:=by
 have:=(uniq (f:=fun x=>sin (-x)+sin x) (g:=fun x=>cos x + - cos (-x))
  (fun a b=>((sin_d _ _).flip.add (sin_d a b)).mapd fun x=>add_comm _ _)
  (fun a b=>((cos_d a b).add (cos_d _ _).flip.neg).mapd fun x=>by
   show-sin x + - - - sin (-x)= -(sin (-x)+sin x)
   generalize sin x=u;generalize sin (-x)=v;exact ring [u,v])
  (by show sin (-0)+sin 0=0;rw [show (-0:Re)=0 from ring [],sin_zero];exact ring [])
  (by show cos 0 + - cos (-0)=0;rw [show (-0:Re)=0 from ring [],cos_zero];exact ring []) x).1
 exact zbP (eq_by [sin x,sin (-x)] this)
theorem cos_neg (x:Re):cos (-x)=cos x:=by
 have:=(uniq (f:=fun x=>sin (-x)+sin x) (g:=fun x=>cos x + - cos (-x))
  (fun a b=>((sin_d _ _).flip.add (sin_d a b)).mapd fun x=>add_comm _ _)
  (fun a b=>((cos_d a b).add (cos_d _ _).flip.neg).mapd fun x=>by
   show-sin x + - - - sin (-x)= -(sin (-x)+sin x)
   generalize sin x=u;generalize sin (-x)=v;exact ring [u,v])
  (by show sin (-0)+sin 0=0;rw [show (-0:Re)=0 from ring [],sin_zero];exact ring [])
  (by show cos 0 + - cos (-0)=0;rw [show (-0:Re)=0 from ring [],cos_zero];exact ring []) x).2
 exact (zbP (eq_by [cos x,cos (-x)] this)).symm
theorem sum_both (a x:Re):sin (a+x)=sin a*cos x+cos a*sin x/\cos (a+x)=cos a*cos x-sin a*sin x:=by
 have:=uniq (f:=fun x=>sin (a+x) + -(sin a*cos x+cos a*sin x)) (g:=fun x=>cos (a+x) + -(cos a*cos x + - (sin a*sin x)))
  (fun l r=>((sin_d _ _).shift a |>.add (((cos_d l r).smul (sin a)).add ((sin_d l r).smul (cos a))).neg).mapd fun x=>by
   show cos (a+x) + - (sin a *-sin x+cos a*cos x)=cos (a+x) + -(cos a*cos x + - (sin a*sin x))
   generalize cos (a+x)=p;generalize sin a=q;generalize cos a=r;generalize sin x=s;generalize cos x=t
   exact ring [p,q,r,s,t])
  (fun l r=>((cos_d _ _).shift a |>.add (((cos_d l r).smul (cos a)).add ((sin_d l r).smul (sin a)).neg).neg).mapd fun x=>by
   show-sin (a+x) + - (cos a *-sin x + - (sin a*cos x))= -(sin (a+x) + -(sin a*cos x+cos a*sin x))
   generalize sin (a+x)=p;generalize sin a=q;generalize cos a=r;generalize sin x=s;generalize cos x=t
   exact ring [p,q,r,s,t])
  (by
   show sin (a+0) + -(sin a*cos 0+cos a*sin 0)=0
   rw [add_zero,sin_zero,cos_zero];generalize sin a=q;generalize cos a=r;exact ring [q,r])
  (by
   show cos (a+0) + -(cos a*cos 0 + -(sin a*sin 0))=0
   rw [add_zero,sin_zero,cos_zero];generalize sin a=q;generalize cos a=r;exact ring [q,r]) x
 exact ⟨zbP this.1,zbP (by
  have h:cos (a+x) + -(cos a*cos x + -(sin a*sin x))=0:=this.2
  generalize cos (a+x)=p at *;generalize sin a=q at *;generalize cos a=r at *;generalize sin x=s at *;generalize cos x=t at *
  exact eq_by [p,q,r,s,t] h)⟩
theorem sin_add (a x:Re):sin (a+x)=sin a*cos x+cos a*sin x:=(sum_both a x).1
theorem cos_add (a x:Re):cos (a+x)=cos a*cos x-sin a*sin x:=(sum_both a x).2
theorem sin_sub (a x:Re):sin (a-x)=sin a*cos x-cos a*sin x:=by
 rw [sub_eq,sin_add,sin_neg,cos_neg];generalize sin a=q;generalize cos a=r;generalize sin x=s;generalize cos x=t
 exact ring [q,r,s,t]
theorem cos_sub (a x:Re):cos (a-x)=cos a*cos x+sin a*sin x:=by
 rw [sub_eq,cos_add,sin_neg,cos_neg];generalize sin a=q;generalize cos a=r;generalize sin x=s;generalize cos x=t
 exact ring [q,r,s,t]
theorem sc_sq (x:Re):sin x*sin x+cos x*cos x=1:=by
 have:=cos_sub x x
 rw [show x-x=0 from ring [x],cos_zero] at this
 rw [this,add_comm]
theorem cos_le1 (x:Re):cos x<=1:=by
 have h:=sc_sq x
 have k:=sqn (sin x)
 refine sq_le (qn 1) ?_
 generalize sin x=s at *;generalize cos x=c at *
 rw [show (1:Re)*1=s*s+c*c from by rw [h];exact ring []];exact zaa [s,c] k
theorem sin_le1 (x:Re):sin x<=1:=by
 have h:=sc_sq x
 have k:=sqn (cos x)
 refine sq_le (qn 1) ?_
 generalize sin x=s at *;generalize cos x=c at *
 rw [show (1:Re)*1=s*s+c*c from by rw [h];exact ring []];exact zaa [s,c] k
theorem sin_gem1 (x:Re): -1<=sin x:=by
 have:=sin_le1 (-x);rw [sin_neg] at this;exact zaa [sin x] (sn this)
theorem sin_le {x:Re} (h:0<=x):sin x<=x:=by
 have:=Der.le (sin_d 0 x) (Der.id 0 x) h (fun y _ _=>cos_le1 y)
 rw [sin_zero] at this
 exact zaa [sin x,x] (sn this)
theorem sq_d (a b:Re):Der a b (fun x=>x*x) (fun x=>2*x):=⟨1,qn 1,fun x y _ _ _ _=>by
 rw [show y*y-x*x-2*x*(y-x)=(y-x)*(y-x) from ring [x,y],zbM (sqn _)]
 exact zaa [x,y] (le_refl 0)⟩
theorem cos_ge {x:Re} (h:0<=x):1-x*x*rat (1/2)<=cos x:=by
 have:=Der.le ((sq_d 0 x).smul (rat (-1/2))) (cos_d 0 x) h (fun y h0 _=>by
  have:=sin_le h0;generalize sin y=s at *;exact zaa [s,y] (sn this))
 rw [cos_zero] at this
 generalize cos x=c at *
 exact zaa [x,c] (sn this)
theorem cube_d (a b:Re) (h:a<=b):Der a b (fun x=>x*(x*x)) (fun x=>3*(x*x)):=
 ((Der.id a b).mul (sq_d a b) h).mapd fun x=>ring [x]
theorem four_d (a b:Re) (h:a<=b):Der a b (fun x=>x*(x*(x*x))) (fun x=>4*(x*(x*x))):=
 ((Der.id a b).mul (cube_d a b h) h).mapd fun x=>ring [x]
theorem sin_ge {x:Re} (h:0<=x):x-x*(x*x)*rat (1/6)<=sin x:=by
 have:=Der.le ((Der.id 0 x).add ((cube_d 0 x h).smul (rat (-1/6)))) (sin_d 0 x) h (fun y h0 _=>by
  have:=cos_ge h0;generalize cos y=s at *;exact zaa [s,y] (sn this))
 rw [sin_zero] at this
 generalize sin x=c at *
 exact zaa [x,c] (sn this)
theorem cos_le {x:Re} (h:0<=x):cos x<=1-x*x*rat (1/2)+x*(x*(x*x))*rat (1/24):=by
 have:=Der.le (cos_d 0 x) (((sq_d 0 x).smul (rat (-1/2))).add ((four_d 0 x h).smul (rat (1/24)))) h (fun y h0 _=>by
  have:=sin_ge h0;generalize sin y=s at *;exact zaa [s,y] (sn this))
 rw [cos_zero] at this
 generalize cos x=c at *
 exact zaa [x,c] (sn this)
theorem sin_pos2 {x:Re} (h:0<x) (k:x<=2):0<sin x:=by
 refine lt_of_lt_of_le ?_ (sin_ge (le_of_lt h))
 have h1:=mn (sn k) (pn (qn 2) (le_of_lt h))
 exact lt_by [x] (mp h (ppn (qp (1/3)) (mn h1 (qn (1/6)))))
theorem hp_ex:∃p,0<=p/\p<=2/\cos p=0:=by
 have h02:(0:Re)<=2:=qn 2
 obtain ⟨L,l0,hL⟩:=(cos_d 0 2).neg.lip h02
 obtain ⟨c,c1,c2,c3⟩:=zero_of (f:=fun x=> - cos x) h02 l0 hL (by
  show-cos 0<=0;rw [cos_zero];exact zaa [] (qn 1)) (by
  have:=cos_le (x:=2) h02
  show 0 <= - cos 2
  generalize cos 2=c at *
  exact zaa [c] (pn (sn this) (qn (1/3))))
 exact ⟨c,c1,c2,eq_by [cos c] (congrArg (fun t=> -t) c3: - - cos c= - 0)⟩
def hp:Re:=Classical.choose hp_ex
theorem hp_2:hp<=2:=(Classical.choose_spec hp_ex).2.1
theorem cos_hp:cos hp=0:=(Classical.choose_spec hp_ex).2.2
theorem hp_1:1<=hp:=by
 rcases lt_or_le hp 1 with k|k
 ·have h0:0<=hp:=(Classical.choose_spec hp_ex).1
  have:=cos_ge h0
  rw [cos_hp] at this
  generalize hp=p at *
  exact absurd (lt_by [p] (ppn (qp (1/2)) (mn (mn (sn (le_of_lt k)) (pn (qn 1) h0)) (qn (1/2)))):(0:Re)<1-p*p*rat (1/2)) this
 ·exact k
theorem hp_p:0<hp:=lt_of_lt_of_le (qp 1) hp_1
theorem sin_hp:sin hp=1:=by
 have h:=sc_sq hp
 have k:=sin_pos2 hp_p hp_2
 rw [cos_hp] at h
 refine sq_eq (le_of_lt k) (qn 1) ?_
 generalize sin hp=s at *
 rw [show (1:Re)*1=1 from ring [],<- h];exact ring [s]
theorem sin_hp_sub (x:Re):sin (hp-x)=cos x:=by rw [sin_sub,sin_hp,cos_hp];generalize sin x=s;generalize cos x=c;exact ring [s,c]
theorem sin_add_hp (x:Re):sin (x+hp)=cos x:=by rw [sin_add,sin_hp,cos_hp];generalize sin x=s;generalize cos x=c;exact ring [s,c]
theorem cos_add_hp (x:Re):cos (x+hp)= - sin x:=by rw [cos_add,sin_hp,cos_hp];generalize sin x=s;generalize cos x=c;exact ring [s,c]
theorem cos_pos1 {x:Re} (h:0<=x) (k:x<hp):0<cos x:=by
 rw [<- sin_hp_sub]
 exact sin_pos2 (sp k) (le_trans (zaa [hp,x] h) hp_2)
theorem cos_pos {x:Re} (h: -hp<x) (k:x<hp):0<cos x:=by
 rcases le_total 0 x with m|m
 ·exact cos_pos1 m k
 ·rw [<- cos_neg];exact cos_pos1 (neg_nn m) (lt_by [x,hp] (sp h))
theorem cos_nn {x:Re} (h: -hp<=x) (k:x<=hp):0<=cos x:=by
 rcases le_iff.1 h with h|h
 ·rcases le_iff.1 k with k|k
  ·exact le_of_lt (cos_pos h k)
  ·rw [k,cos_hp];exact le_refl _
 ·rw [<- h,cos_neg,cos_hp];exact le_refl _
theorem sin_mono {x y:Re} (h: -hp<=x) (hxy:x<=y) (k:y<=hp):sin x<=sin y:=
 (sin_d x y).mono (fun z h1 h2=>cos_nn (le_trans h h1) (le_trans h2 k)) hxy
end Go.Proofs.YtlolpmmloolieaaGreatDoor.An
namespace Go.Proofs.YtlolpmmloolieaaGreatDoor.An
def monQ (x:Rat):Nat->Rat
 | 0=>1
 | n+1=>monQ x n*x*(1/((n+1:Nat):Rat))
theorem mon_rat (q:Rat) (n:Nat):mon (rat q) n=rat (monQ q n):=by
 induction n with
 | zero=>rfl
 | succ n ih=>simp only [mon,monQ,ih,rat_mul]
def psumQ (c:Nat->Rat) (x:Rat):Nat->Rat
 | 0=>0
 | n+1=>psumQ c x n+c n*monQ x n
theorem psum_rat (c:Nat->Rat) (q:Rat) (n:Nat):psum c (rat q) n=rat (psumQ c q n):=by
 induction n with
 | zero=>rfl
 | succ n ih=>simp only [psum,psumQ,ih,mon_rat,rat_mul,rat_add]
theorem cos_near {q:Rat} (h0:0<=q) (h2:q<=2):abs (cos (rat q)-rat (psumQ cc q 40))<=rat (2*monQ 2 40):=by
 have:=ser_tail cc_co (x:=rat q) (M:=rat 2) (i:=40) (by rw [zbM (rat_nn h0)];exact rat_le.2 h2) (num_le (2*2) ((40+1:Nat):Rat))
 rw [psum_rat,mon_rat] at this
 exact this
theorem sub_le_self {x y:Re} (h:0<=y):x-y<=x:=zaa [x,y] h
theorem hp_ge {q:Rat} (h0:0<=q) (h2:q<=2) (h:decide (2*monQ 2 40<=psumQ cc q 40)=true):rat q<=hp:=by
 rcases lt_or_le hp (rat q) with k|k
 ·have h1:=sin_pos2 (sp k) (le_trans (sub_le_self (le_of_lt hp_p)) (rat_le.2 h2))
  rw [sin_sub,sin_hp,cos_hp] at h1
  have h3:=(of_abs (cos_near h0 h2)).1
  have h4:rat (2*monQ 2 40)<=rat (psumQ cc q 40):=rat_le.2 (of_decide_eq_true h)
  generalize rat (psumQ cc q 40)=p at *;generalize rat (2*monQ 2 40)=t at *;generalize cos (rat q)=c at *;generalize sin (rat q)=s at *
  exact absurd (zaa [p,t,c] (pn (sn h3) (sn h4)):0<=c) (not_le.2 (lt_by [c,s] h1))
 ·exact k
theorem hp_le {q:Rat} (h0:0<=q) (h2:q<=2) (h:decide (psumQ cc q 40+2*monQ 2 40<=0)=true):hp<=rat q:=by
 rcases lt_or_le (rat q) hp with k|k
 ·have h1:=cos_pos1 (rat_nn h0) k
  have h3:=(of_abs (cos_near h0 h2)).2
  have h4:rat (psumQ cc q 40)+rat (2*monQ 2 40)<=0:=by rw [<- rat_add];exact rat_le.2 (of_decide_eq_true h)
  generalize rat (psumQ cc q 40)=p at *;generalize rat (2*monQ 2 40)=t at *;generalize cos (rat q)=c at *
  exact absurd (zaa [p,t,c] (pn (sn h3) (sn h4)):c<=0) (not_le.2 h1)
 ·exact k
theorem hp_lo:rat (7244019458077122842/4611686018427387904)<=hp:=hp_ge (by decide +kernel) (by decide +kernel) (by kernel_rfl)
theorem hp_hi:hp<=rat (7244019458077122843/4611686018427387904):=hp_le (by decide +kernel) (by decide +kernel) (by kernel_rfl)
end Go.Proofs.YtlolpmmloolieaaGreatDoor.An
namespace Go.Proofs.YtlolpmmloolieaaGreatDoor.An
def aP (s:Rat) (x:Re):Nat->Re
 | 0=>0
 | k+1=>aP s x k+rat (s^k*(1/((2*k+1:Nat):Rat)))*x^(2*k+1)
def monP:Nat->PE
 | 0=> .q 1
 | n+1=> .mul (.mul (monP n) (.v 0)) (.q (1/((n+1:Nat):Rat)))
def psumP (c:Nat->Rat):Nat->PE
 | 0=> .q 0
 | n+1=> .add (psumP c n) (.mul (.q (c n)) (monP n))
def aPP (s:Rat):Nat->PE
 | 0=> .q 0
 | k+1=> .add (aPP s k) (.mul (.q (s^k*(1/((2*k+1:Nat):Rat)))) (.pow (.v 0) (2*k+1)))
theorem monP_ev (x:Re) (n:Nat):(monP n).ev [x]=mon x n:=by
 induction n with
 | zero=>rfl
 | succ n ih=>simp only [monP,PE.ev,ih,mon];rfl
theorem psumP_ev (c:Nat->Rat) (x:Re) (n:Nat):(psumP c n).ev [x]=psum c x n:=by
 induction n with
 | zero=>rfl
 | succ n ih=>simp only [psumP,PE.ev,ih,psum,monP_ev]
theorem aPP_ev (s:Rat) (x:Re) (n:Nat):(aPP s n).ev [x]=aP s x n:=by
 induction n with
 | zero=>rfl
 | succ n ih=>simp only [aPP,PE.ev,ih,aP];rfl
instance rfPsum {c:Nat->Rat} {x:Re} {n:Nat}:Rf [x] (psum c x n) (psumP c n):=⟨psumP_ev c x n⟩
instance rfAP {s:Rat} {x:Re} {n:Nat}:Rf [x] (aP s x n) (aPP s n):=⟨aPP_ev s x n⟩
theorem sin_horner {x:Re} (h:abs x<=1):abs (sin x-x*(1-x*x*rat (1/6)*(1-x*x*rat (1/20)*(1-x*x*rat (1/42)*(1-x*x*rat (1/72)*(1-x*x*rat (1/110)*(1-x*x*rat (1/156)*(1-x*x*rat (1/210)*(1-x*x*rat (1/272)*1)))))))))<=rat (1/8589934592):=by
 have h1:=ser_tail sc_co (i:=18) h (num_le (2*1) ((18+1:Nat):Rat))
 have e:psum sc x 18=x*(1-x*x*rat (1/6)*(1-x*x*rat (1/20)*(1-x*x*rat (1/42)*(1-x*x*rat (1/72)*(1-x*x*rat (1/110)*(1-x*x*rat (1/156)*(1-x*x*rat (1/210)*(1-x*x*rat (1/272)*1)))))))):=by
  exact ring [x]
 have e2:2*mon 1 18<=rat (1/8589934592):=by
  rw [show (1:Re)=rat 1 from rfl,mon_rat]
  exact num_le (2*monQ 1 18) _
 rw [e] at h1
 exact le_trans h1 e2
theorem cos_horner {x:Re} (h:abs x<=1):abs (cos x-(1-x*x*rat (1/2)*(1-x*x*rat (1/12)*(1-x*x*rat (1/30)*(1-x*x*rat (1/56)*(1-x*x*rat (1/90)*(1-x*x*rat (1/132)*(1-x*x*rat (1/182)*(1-x*x*rat (1/240)*1)))))))))<=rat (1/8589934592):=by
 have h1:=ser_tail cc_co (i:=17) h (num_le (2*1) ((17+1:Nat):Rat))
 have e:psum cc x 17=(1-x*x*rat (1/2)*(1-x*x*rat (1/12)*(1-x*x*rat (1/30)*(1-x*x*rat (1/56)*(1-x*x*rat (1/90)*(1-x*x*rat (1/132)*(1-x*x*rat (1/182)*(1-x*x*rat (1/240)*1)))))))):=by
  exact ring [x]
 have e2:2*mon 1 17<=rat (1/8589934592):=by
  rw [show (1:Re)=rat 1 from rfl,mon_rat]
  exact num_le (2*monQ 1 17) _
 rw [e] at h1
 exact le_trans h1 e2
end Go.Proofs.YtlolpmmloolieaaGreatDoor.An
namespace Go.Proofs.YtlolpmmloolieaaGreatDoor.An
def zi (k:Int):Re:=rat (k:Rat)
theorem zi_add (a b:Int):zi (a+b)=zi a+zi b:=by unfold zi;rw [Rat.intCast_add,rat_add]
theorem zi_neg (a:Int):zi (-a)= - zi a:=by unfold zi;rw [Rat.intCast_neg,rat_neg]
theorem zi_sub (a b:Int):zi (a-b)=zi a-zi b:=by rw [Int.sub_eq_add_neg,zi_add,zi_neg];rfl
theorem zeH (a b:Int):zi (a*b)=zi a*zi b:=by unfold zi;rw [Rat.intCast_mul,rat_mul]
theorem zi_le {a b:Int}:zi a<=zi b↔a<=b:=by unfold zi;rw [rat_le,Rat.intCast_le_intCast]
theorem zi_lt {a b:Int}:zi a<zi b↔a<b:=by unfold zi;rw [rat_lt,Rat.intCast_lt_intCast]
theorem zi_0:zi 0=0:=rfl
theorem zi_1:zi 1=1:=rfl
theorem zi_nat (n:Nat):zi (n:Int)=rat (n:Rat):=by unfold zi;rw [Rat.intCast_natCast]
theorem floor_ex (x:Re):∃k:Int,zi k<=x/\x<zi (k+1):=by
 obtain ⟨n,hn⟩:=arch (abs x)
 have h0:zi (-(n:Int))<=x:=by
  have:=neg_le_abs x
  rw [zi_neg,zi_nat]
  generalize rat (n:Rat)=r at *;generalize abs x=u at *
  exact zaa [r,u,x] (pn (le_of_lt (sp hn)) (sn this))
 have h1:x<zi (n:Int):=lt_of_le_of_lt (le_abs x) (by rw [zi_nat];exact hn)
 have key:∀j:Nat,(∃k:Int,zi k<=x/\x<zi (k+1))\/zi (-(n:Int)+j)<=x:=by
  intro j
  induction j with
  | zero=>right;rw [show -(n:Int)+((0:Nat):Int)= -(n:Int) by omega];exact h0
  | succ j ih=>
   rcases ih with h|h
   ·exact .inl h
   ·rcases lt_or_le x (zi (-(n:Int)+(j:Int)+1)) with k|k
    ·exact .inl ⟨_,h,k⟩
    ·right;rw [show -(n:Int)+((j+1:Nat):Int)= -(n:Int)+(j:Int)+1 by omega];exact k
 rcases key (2*n) with h|h
 ·exact h
 ·rw [show -(n:Int)+((2*n:Nat):Int)=(n:Int) by omega] at h
  exact absurd h1 h
def qt (k:Int):Re:=zi k*hp
theorem qt_succ (k:Int):qt (k+1)=qt k+hp:=by
 unfold qt;rw [zi_add,zi_1];generalize zi k=z;generalize hp=p;exact ring [z,p]
theorem qt_add (a b:Int):qt (a+b)=qt a+qt b:=by
 unfold qt;rw [zi_add];generalize zi a=z;generalize zi b=w;generalize hp=p;exact ring [z,w,p]
theorem qt_neg (a:Int):qt (-a)= - qt a:=by unfold qt;rw [zi_neg,neg_mul]
theorem qt_0:qt 0=0:=zero_mul _
theorem sin_step (x:Re) (k:Int):sin (x+qt (k+1))=cos (x+qt k)/\cos (x+qt (k+1))= - sin (x+qt k):=by
 rw [qt_succ,<- add_assoc];exact ⟨sin_add_hp _,cos_add_hp _⟩
theorem sin_4 (x:Re) (k:Int):sin (x+qt (k+4))=sin (x+qt k)/\cos (x+qt (k+4))=cos (x+qt k):=by
 have a1:=sin_step x k
 have a2:=sin_step x (k+1)
 have a3:=sin_step x (k+1+1)
 have a4:=sin_step x (k+1+1+1)
 rw [show k+4=k+1+1+1+1 by omega,a4.1,a4.2,a3.1,a3.2,a2.1,a2.2,a1.1,a1.2]
 generalize sin (x+qt k)=s;generalize cos (x+qt k)=c
 exact ⟨ring [s],ring [c]⟩
theorem sin_4n (x:Re) (k:Int) (n:Nat):sin (x+qt (k+4*n))=sin (x+qt k)/\cos (x+qt (k+4*n))=cos (x+qt k):=by
 induction n with
 | zero=>rw [show k+4*((0:Nat):Int)=k by omega];exact ⟨rfl,rfl⟩
 | succ n ih=>
  have:=sin_4 x (k+4*n)
  rw [show k+4*((n+1:Nat):Int)=k+4*(n:Int)+4 by omega,this.1,this.2];exact ih
theorem sin_4z (x:Re) (k m:Int):sin (x+qt (k+4*m))=sin (x+qt k)/\cos (x+qt (k+4*m))=cos (x+qt k):=by
 rcases Int.le_total 0 m with h|h
 ·have:=sin_4n x k m.toNat
  rwa [Int.toNat_of_nonneg h] at this
 ·have:=sin_4n x (k+4*m) (-m).toNat
  rw [Int.toNat_of_nonneg (by omega),show k+4*m+4 * -m=k by omega] at this
  exact ⟨this.1.symm,this.2.symm⟩
theorem sin_q0 (x:Re) {k:Int} (h:k%4=0):sin (x+qt k)=sin x:=by
 have:=(sin_4z x 0 (k/4)).1
 rwa [show 0+4*(k/4)=k by omega,qt_0,add_zero] at this
theorem cos_q0 (x:Re) {k:Int} (h:k%4=0):cos (x+qt k)=cos x:=by
 have:=(sin_4z x 0 (k/4)).2
 rwa [show 0+4*(k/4)=k by omega,qt_0,add_zero] at this
theorem sin_q1 (x:Re) {k:Int} (h:k%4=1):sin (x+qt k)=cos x:=by
 have:=(sin_step x (k-1)).1
 rw [show k-1+1=k by omega] at this
 rw [this,cos_q0 x (by omega)]
theorem sin_q2 (x:Re) {k:Int} (h:k%4=2):sin (x+qt k)= - sin x:=by
 have a:=(sin_step x (k-1)).1
 have b:=(sin_step x (k-2)).2
 rw [show k-1+1=k by omega] at a
 rw [show k-2+1=k-1 by omega] at b
 rw [a,b,sin_q0 x (by omega)]
theorem sin_q3 (x:Re) {k:Int} (h:k%4=3):sin (x+qt k)= - cos x:=by
 have a:=(sin_step x (k-1)).1
 have b:=(sin_step x (k-2)).2
 rw [show k-1+1=k by omega] at a
 rw [show k-2+1=k-1 by omega] at b
 rw [a,b,sin_q1 x (by omega)]
theorem sin_up {x y:Re} {k:Int} (hk:k%4=1) (h1:qt (k-2)<=x) (h2:x<=y) (h3:y<=qt k):sin x<=sin y:=by
 have e:∀z,sin z=sin (z+qt (-(k-1))):=fun z=>(sin_q0 z (by omega)).symm
 rw [e x,e y]
 have hq:=qt_neg (k-1)
 have q1:=qt_succ (k-1)
 have q2:=qt_succ (k-2)
 rw [show k-1+1=k by omega] at q1
 rw [show k-2+1=k-1 by omega] at q2
 rw [hq]
 generalize qt (k-1)=a at *;generalize qt (k-2)=b at *;generalize qt k=c at *
 refine sin_mono ?_ (zeI h2 (le_refl _)) ?_
 ·rw [q2];exact zaa [x,b,hp] (sn h1)
 ·rw [q1] at h3;exact zaa [y,a,hp] (sn h3)
theorem sin_down {x y:Re} {k:Int} (hk:k%4=1) (h1:qt k<=x) (h2:x<=y) (h3:y<=qt (k+2)):sin y<=sin x:=by
 have e:∀z,sin z= - sin (z+qt (-(k+1))):=fun z=>by
  rw [sin_q2 z (by omega)];generalize sin z=s;exact ring [s]
 rw [e x,e y]
 have hq:=qt_neg (k+1)
 have q1:=qt_succ k
 have q2:=qt_succ (k+1)
 rw [show k+1+1=k+2 by omega] at q2
 rw [hq]
 have:=sin_mono (x:=x + -qt (k+1)) (y:=y + -qt (k+1)) (by
  rw [q1];generalize qt k=a at *;exact zaa [x,a,hp] (sn h1)) (zeI h2 (le_refl _)) (by
  rw [q2] at h3;generalize qt (k+1)=a at *;exact zaa [y,a,hp] (sn h3))
 generalize sin (x + -qt (k+1))=s at *;generalize sin (y + -qt (k+1))=t at *
 exact zaa [s,t] (sn this)
theorem quarter_ex (x:Re):∃k:Int,k%4=1/\qt (k-2)<=x/\x<=qt (k+2):=by
 obtain ⟨m,m1,m2⟩:=floor_ex ((x/hp+1)*rat (1/4))
 have e:x=(x/hp)*hp:=(div_mul (ne_of_gt hp_p)).symm
 have h0:=hp_p
 refine ⟨4*m+1,by omega,?_,?_⟩
 ·unfold qt
  rw [show 4*m+1-2=4*m-1 by omega,zi_sub,zeH,zi_1,show zi 4=4 from rfl]
  generalize x/hp=t at *;generalize zi m=z at *
  rw [e];exact zaa [t,z,hp] (mn (kn 4 (sn m1)) (le_of_lt h0))
 ·unfold qt
  rw [show 4*m+1+2=4*(m+1)-1 by omega,zi_sub,zeH,zi_1,show zi 4=4 from rfl]
  generalize x/hp=t at *;generalize zi (m+1)=z at *
  rw [e];exact zaa [t,z,hp] (mn (kn 4 (le_of_lt (sp m2))) (le_of_lt h0))
theorem sin_top {a b x:Re} (h1:a<=x) (h2:x<=b):sin x<=sin a\/sin x<=sin b\/∃k:Int,k%4=1/\a<=qt k/\qt k<=b:=by
 obtain ⟨k,hk,k1,k2⟩:=quarter_ex x
 rcases le_total x (qt k) with l|l
 ·rcases le_total (qt k) b with m|m
  ·exact .inr (.inr ⟨k,hk,le_trans h1 l,m⟩)
  ·exact .inr (.inl (sin_up hk k1 h2 m))
 ·rcases le_total a (qt k) with m|m
  ·exact .inr (.inr ⟨k,hk,m,le_trans l h2⟩)
  ·exact .inl (sin_down hk m h1 k2)
theorem sin_bottom {a b x:Re} (h1:a<=x) (h2:x<=b):sin a<=sin x\/sin b<=sin x\/∃k:Int,k%4=3/\a<=qt k/\qt k<=b:=by
 have e:∀z,sin z= - sin (z+qt 2):=fun z=>by
  rw [sin_q2 z (by decide)];generalize sin z=s;exact ring [s]
 rcases sin_top (a:=a+qt 2) (b:=b+qt 2) (x:=x+qt 2) (zeI h1 (le_refl _)) (zeI h2 (le_refl _)) with h|h|⟨k,hk,k1,k2⟩
 ·left;rw [e a,e x];generalize sin (a+qt 2)=s at *;generalize sin (x+qt 2)=t at *;exact zaa [s,t] (sn h)
 ·right;left;rw [e b,e x];generalize sin (b+qt 2)=s at *;generalize sin (x+qt 2)=t at *;exact zaa [s,t] (sn h)
 ·right;right
  refine ⟨k-2,by omega,?_,?_⟩
  ·have:=qt_add (k-2) 2
   rw [show k-2+2=k by omega] at this
   rw [this] at k1
   generalize qt (k-2)=u at *;generalize qt 2=v at *
   exact zaa [a,u,v] (sn k1)
  ·have:=qt_add (k-2) 2
   rw [show k-2+2=k by omega] at this
   rw [this] at k2
   generalize qt (k-2)=u at *;generalize qt 2=v at *
   exact zaa [b,u,v] (sn k2)
theorem neg_ne0 {y:Re} (h:y≠0): -y≠0:=fun e=>h (by have k:y= - -y:=ring [y];rw [k,e];exact ring [])
theorem div_neg (x y:Re) (h:y≠0): -x / -y=x/y:=by
 refine eq_of_mul (z:= -y) (neg_ne0 h) ?_
 rw [div_mul (neg_ne0 h)]
 have:=div_mul (x:=x) h
 generalize x/y=q at *
 exact eq_by [x,y,q] this
theorem neg_ne {y:Re} (h:y<0):0 < -y:=lt_by [y] (sp h)
end Go.Proofs.YtlolpmmloolieaaGreatDoor.An
namespace Go.Proofs.YtlolpmmloolieaaGreatDoor.An
end Go.Proofs.YtlolpmmloolieaaGreatDoor.An
