/- The law FnCylinders gives true, whatever bytes come in, where the listed tables hold what the program's text lays. The card: the tables tied to the text. No other conditions. (One of the texts of its proof, put together by a program of this session.) -/
import Derived.KernelRfl
set_option linter.unusedSectionVars false
set_option linter.unusedSimpArgs false
set_option linter.unusedVariables false
noncomputable section
namespace Go.Proofs.YtkenfaengphiiaaGreatDoor.An
def Cau (s:Nat->Rat):Prop:=∀e:Rat,0<e->∃N,∀m n,N<=m->N<=n->s m-s n<e
def Nul (s:Nat->Rat):Prop:=∀e:Rat,0<e->∃N,∀n,N<=n-> -e<s n/\s n<e
def Pos (s:Nat->Rat):Prop:=∃e:Rat,0<e/\∃N,∀n,N<=n->e<s n
theorem zgh {e:Rat} (h:0<e):0<e/2:=by grind
theorem div_pos {a b:Rat} (h:0<a) (k:0<b):0<a/b:=by
 rw [Rat.div_def];exact Rat.mul_pos h (Rat.inv_pos.2 k)
theorem zfC {a x B d:Rat} (h1: -B<a) (h2:a<B) (h3: -d<x) (h4:x<d): -(B*d)<a*x/\a*x<B*d:=by
 have p1:0<(B-a)*(d+x):=Rat.mul_pos (by grind) (by grind)
 have p2:0<(B+a)*(d-x):=Rat.mul_pos (by grind) (by grind)
 have p3:0<(B-a)*(d-x):=Rat.mul_pos (by grind) (by grind)
 have p4:0<(B+a)*(d+x):=Rat.mul_pos (by grind) (by grind)
 constructor<;>grind
theorem zCJ {a x B d:Rat} (h1: -B<a) (h2:a<B) (h3: -d<x) (h4:x<d): -(B*d)<x*a/\x*a<B*d:=by
 have:=zfC h1 h2 h3 h4;rwa [Rat.mul_comm x a]
theorem zJk (s:Nat->Rat) (N:Nat):∃B:Rat,0<B/\∀n,n<N-> -B<s n/\s n<B:=by
 induction N with
 | zero=>exact ⟨1,by decide,fun n h=>absurd h (Nat.not_lt_zero n)⟩
 | succ N ih=>
  obtain ⟨B,h0,h⟩:=ih
  have key:∃C:Rat,0<C/\B<=C /\ -C<s N/\s N<C:=by
   rcases Rat.le_total (a:=0) (b:=s N) with k|k
   ·exact ⟨B+s N,by grind,by grind,by grind,by grind⟩
   ·exact ⟨B-s N,by grind,by grind,by grind,by grind⟩
  obtain ⟨C,c0,cB,c1,c2⟩:=key
  refine ⟨C,c0,fun n hn=>?_⟩
  rcases Nat.lt_succ_iff_lt_or_eq.1 hn with k|k
  ·have:=h n k;grind
  ·subst k;exact ⟨c1,c2⟩
theorem Cau.bdd {s:Nat->Rat} (h:Cau s):∃B:Rat,0<B/\∀n,-B<s n/\s n<B:=by
 obtain ⟨N,hN⟩:=h 1 (by decide)
 obtain ⟨B,h0,hB⟩:=zJk s (N+1)
 refine ⟨B+1,by grind,fun n=>?_⟩
 have b:=hB N (by omega)
 rcases Nat.lt_or_ge n (N+1) with k|k
 ·have:=hB n k;grind
 ·have p:=hN n N (by omega) (by omega)
  have q:=hN N n (by omega) (by omega)
  grind
theorem Cau.add {s t:Nat->Rat} (h:Cau s) (k:Cau t):Cau (fun n=>s n+t n):=by
 intro e he
 obtain ⟨N,hN⟩:=h (e/2) (zgh he)
 obtain ⟨M,hM⟩:=k (e/2) (zgh he)
 refine ⟨max N M,fun m n hm hn=>?_⟩
 have a:=hN m n (by omega) (by omega)
 have b:=hM m n (by omega) (by omega)
 show (s m+t m)-(s n+t n)<e
 grind
theorem Cau.neg {s:Nat->Rat} (h:Cau s):Cau (fun n=> - s n):=by
 intro e he
 obtain ⟨N,hN⟩:=h e he
 refine ⟨N,fun m n hm hn=>?_⟩
 have a:=hN n m hn hm
 show-s m - - s n<e
 grind
theorem Cau.mul {s t:Nat->Rat} (h:Cau s) (k:Cau t):Cau (fun n=>s n*t n):=by
 intro e he
 obtain ⟨B,b0,hB⟩:=h.bdd
 obtain ⟨C,c0,hC⟩:=k.bdd
 obtain ⟨N,hN⟩:=h (e/2/C) (div_pos (zgh he) c0)
 obtain ⟨M,hM⟩:=k (e/2/B) (div_pos (zgh he) b0)
 refine ⟨max N M,fun m n hm hn=>?_⟩
 have a1:=hN m n (by omega) (by omega)
 have a2:=hN n m (by omega) (by omega)
 have b1:=hM m n (by omega) (by omega)
 have b2:=hM n m (by omega) (by omega)
 have x:=(zfC (hB m).1 (hB m).2 (x:=t m-t n) (d:=e/2/B) (by grind) b1).2
 have y:=(zfC (hC n).1 (hC n).2 (x:=s m-s n) (d:=e/2/C) (by grind) a1).2
 have z1:B*(e/2/B)=e/2:=by rw [Rat.mul_comm];exact Rat.div_mul_cancel (by grind)
 have z2:C*(e/2/C)=e/2:=by rw [Rat.mul_comm];exact Rat.div_mul_cancel (by grind)
 show s m*t m-s n*t n<e
 grind
theorem Cau.const (q:Rat):Cau (fun _=>q):=fun e he=>⟨0,fun m n _ _=>by show q-q<e;grind⟩
theorem Nul.add {s t:Nat->Rat} (h:Nul s) (k:Nul t):Nul (fun n=>s n+t n):=by
 intro e he
 obtain ⟨N,hN⟩:=h (e/2) (zgh he)
 obtain ⟨M,hM⟩:=k (e/2) (zgh he)
 refine ⟨max N M,fun n hn=>?_⟩
 have a:=hN n (by omega)
 have b:=hM n (by omega)
 show -e<s n+t n/\s n+t n<e
 grind
theorem Nul.neg {s:Nat->Rat} (h:Nul s):Nul (fun n=> - s n):=by
 intro e he
 obtain ⟨N,hN⟩:=h e he
 refine ⟨N,fun n hn=>?_⟩
 have a:=hN n hn
 show -e < - s n /\ - s n<e
 grind
theorem Nul.mul {s t:Nat->Rat} (h:Nul s) (k:Cau t):Nul (fun n=>s n*t n):=by
 intro e he
 obtain ⟨B,b0,hB⟩:=k.bdd
 obtain ⟨N,hN⟩:=h (e/B) (div_pos he b0)
 refine ⟨N,fun n hn=>?_⟩
 have a:=hN n hn
 have x:=zCJ (hB n).1 (hB n).2 a.1 a.2
 have z1:B*(e/B)=e:=by rw [Rat.mul_comm];exact Rat.div_mul_cancel (by grind)
 show -e<s n*t n/\s n*t n<e
 grind
theorem Nul.zero:Nul (fun _=>(0:Rat)):=fun e he=>⟨0,fun n _=>by show -e<0/\0<e;grind⟩
theorem Nul.congr {s t:Nat->Rat} (h:Nul s) (k:∀n,s n=t n):Nul t:=by
 have:s=t:=funext k
 rwa [<- this]
structure CS where
 s:Nat->Rat
 c:Cau s
def Eqv (a b:CS):Prop:=Nul (fun n=>a.s n-b.s n)
theorem Eqv.refl (a:CS):Eqv a a:=Nul.zero.congr (fun n=>by grind)
theorem Eqv.symm {a b:CS} (h:Eqv a b):Eqv b a:=Nul.congr (Nul.neg h) (fun n=>by grind)
theorem Eqv.trans {a b c:CS} (h:Eqv a b) (k:Eqv b c):Eqv a c:=Nul.congr (Nul.add h k) (fun n=>by grind)
instance csd:Setoid CS:=⟨Eqv,Eqv.refl,Eqv.symm,Eqv.trans⟩
def Re:Type:=Quotient csd
def mk (a:CS):Re:=Quotient.mk csd a
theorem mk_eq {a b:CS}:mk a=mk b↔Eqv a b:=⟨fun h=>Quotient.exact h,fun h=>Quotient.sound h⟩
theorem Re.ind {P:Re->Prop} (h:∀a,P (mk a)) (x:Re):P x:=Quotient.ind h x
theorem Re.rep (x:Re):∃a,x=mk a:=Re.ind (P:=fun x=>∃a,x=mk a) (fun a=>⟨a,rfl⟩) x
def CS.add (a b:CS):CS:=⟨fun n=>a.s n+b.s n,a.c.add b.c⟩
def CS.mul (a b:CS):CS:=⟨fun n=>a.s n*b.s n,a.c.mul b.c⟩
def CS.neg (a:CS):CS:=⟨fun n=> - a.s n,a.c.neg⟩
def CS.con (q:Rat):CS:=⟨fun _=>q,Cau.const q⟩
theorem CS.add_eqv {a b c d:CS} (h:Eqv a c) (k:Eqv b d):Eqv (a.add b) (c.add d):=Nul.congr (Nul.add h k) (fun n=>by simp only [CS.add];grind)
theorem CS.neg_eqv {a c:CS} (h:Eqv a c):Eqv a.neg c.neg:=Nul.congr (Nul.neg h) (fun n=>by simp only [CS.neg];grind)
theorem CS.mul_eqv {a b c d:CS} (h:Eqv a c) (k:Eqv b d):Eqv (a.mul b) (c.mul d):=
 Nul.congr (Nul.add (Nul.mul h b.c) (Nul.mul k c.c)) (fun n=>by simp only [CS.mul];grind)
def Re.add (x y:Re):Re:=Quotient.lift₂ (fun a b=>mk (a.add b)) (fun _ _ _ _ h k=>mk_eq.2 (CS.add_eqv h k)) x y
def Re.mul (x y:Re):Re:=Quotient.lift₂ (fun a b=>mk (a.mul b)) (fun _ _ _ _ h k=>mk_eq.2 (CS.mul_eqv h k)) x y
def Re.neg (x:Re):Re:=Quotient.lift (fun a=>mk a.neg) (fun _ _ h=>mk_eq.2 (CS.neg_eqv h)) x
def rat (q:Rat):Re:=mk (CS.con q)
instance:Add Re:=⟨Re.add⟩
instance:Mul Re:=⟨Re.mul⟩
instance:Neg Re:=⟨Re.neg⟩
instance:Sub Re:=⟨fun x y=>x + -y⟩
instance {n:Nat}:OfNat Re n:=⟨rat (OfNat.ofNat n)⟩
theorem sub_eq (x y:Re):x-y=x + -y:=rfl
theorem zmQ {a b:CS} (h:∀n,a.s n=b.s n):mk a=mk b:=mk_eq.2 (Nul.zero.congr (fun n=>by rw [h n];grind))
theorem add_comm (x y:Re):x+y=y+x:=by
 revert x y;refine Re.ind fun a=>Re.ind fun b=>?_
 exact zmQ fun n=>by simp only [CS.add];grind
theorem add_assoc (x y z:Re):x+y+z=x+(y+z):=by
 revert x y z;refine Re.ind fun a=>Re.ind fun b=>Re.ind fun c=>?_
 exact zmQ fun n=>by simp only [CS.add];grind
theorem add_zero (x:Re):x+0=x:=by
 revert x;refine Re.ind fun a=>?_
 exact zmQ fun n=>by simp only [CS.add,CS.con];grind
theorem add_neg (x:Re):x + -x=0:=by
 revert x;refine Re.ind fun a=>?_
 exact zmQ fun n=>by simp only [CS.add,CS.neg,CS.con];grind
theorem mul_comm (x y:Re):x*y=y*x:=by
 revert x y;refine Re.ind fun a=>Re.ind fun b=>?_
 exact zmQ fun n=>by simp only [CS.mul];grind
theorem mul_assoc (x y z:Re):x*y*z=x*(y*z):=by
 revert x y z;refine Re.ind fun a=>Re.ind fun b=>Re.ind fun c=>?_
 exact zmQ fun n=>by simp only [CS.mul];grind
theorem mul_one (x:Re):x*1=x:=by
 revert x;refine Re.ind fun a=>?_
 exact zmQ fun n=>by simp only [CS.mul,CS.con];grind
theorem mul_add (x y z:Re):x*(y+z)=x*y+x*z:=by
 revert x y z;refine Re.ind fun a=>Re.ind fun b=>Re.ind fun c=>?_
 exact zmQ fun n=>by simp only [CS.mul,CS.add];grind
theorem zk4 (p q:Rat):rat (p+q)=rat p+rat q:=rfl
theorem zk3 (p q:Rat):rat (p*q)=rat p*rat q:=rfl
theorem zyv (p:Rat):rat (-p)= - rat p:=rfl
theorem Pos.congr {a b:CS} (h:Pos a.s) (k:Eqv a b):Pos b.s:=by
 obtain ⟨e,he,N,hN⟩:=h
 obtain ⟨M,hM⟩:=k (e/2) (zgh he)
 refine ⟨e/2,zgh he,max N M,fun n hn=>?_⟩
 have a1:=hN n (by omega)
 have a2:=hM n (by omega)
 simp only at a2
 grind
def Re.pos (x:Re):Prop:=Quotient.lift (fun a:CS=>Pos a.s) (fun a b h=>propext ⟨fun k=>k.congr h,fun k=>k.congr (Eqv.symm h)⟩) x
instance:LT Re:=⟨fun x y=>Re.pos (y-x)⟩
instance:LE Re:=⟨fun x y=>¬y<x⟩
theorem lt_def (x y:Re):(x<y)=Re.pos (y-x):=rfl
theorem zG7 {x y:Re}:x.pos->y.pos->(x+y).pos:=by
 obtain ⟨a,rfl⟩:=x.rep
 obtain ⟨b,rfl⟩:=y.rep
 rintro ⟨e,he,N,hN⟩ ⟨f,hf,M,hM⟩
 refine ⟨e,he,max N M,fun n hn=>?_⟩
 have a1:=hN n (by omega)
 have a2:=hM n (by omega)
 simp only [CS.add];grind
theorem zG6 {x y:Re}:x.pos->y.pos->(x*y).pos:=by
 obtain ⟨a,rfl⟩:=x.rep
 obtain ⟨b,rfl⟩:=y.rep
 rintro ⟨e,he,N,hN⟩ ⟨f,hf,M,hM⟩
 refine ⟨e*f,Rat.mul_pos he hf,max N M,fun n hn=>?_⟩
 have a1:=hN n (by omega)
 have a2:=hM n (by omega)
 have p1:0<(a.s n-e)*f:=Rat.mul_pos (by grind) hf
 have p2:0<a.s n*(b.s n-f):=Rat.mul_pos (by grind) (by grind)
 simp only [CS.mul];grind
theorem zxf:¬(0:Re).pos:=by
 rintro ⟨e,he,N,hN⟩
 have:=hN N (Nat.le_refl N)
 simp only [CS.con] at this
 grind
theorem zG5 {x:Re}:¬x.pos->¬(-x).pos->x=0:=by
 obtain ⟨a,rfl⟩:=x.rep
 intro h k
 refine mk_eq.2 ?_
 intro e he
 obtain ⟨N,hN⟩:=a.c (e/2) (zgh he)
 have k1:∃n,N<=n/\¬(e/2<a.s n):=Classical.byContradiction fun c=>h ⟨e/2,zgh he,N,fun n hn=>Classical.byContradiction fun d=>c ⟨n,hn,d⟩⟩
 have k2:∃n,N<=n/\¬(e/2 < - a.s n):=Classical.byContradiction fun c=>k ⟨e/2,zgh he,N,fun n hn=>Classical.byContradiction fun d=>c ⟨n,hn,d⟩⟩
 obtain ⟨p,hp,hp'⟩:=k1
 obtain ⟨q,hq,hq'⟩:=k2
 refine ⟨N,fun n hn=>?_⟩
 have u1:=hN n p hn hp
 have u2:=hN q n hq hn
 simp only [CS.con,Rat.not_lt] at *
 grind
theorem zGX {q:Rat}:(rat q).pos↔0<q:=by
 constructor
 ·rintro ⟨e,he,N,hN⟩
  have:=hN N (Nat.le_refl N)
  simp only [CS.con] at this
  grind
 ·intro h
  exact ⟨q/2,zgh h,0,fun n _=>by simp only [CS.con];grind⟩
theorem zFJ (x:Re):∃q:Rat,x<rat q:=by
 revert x;refine Re.ind fun a=>?_
 obtain ⟨B,b0,hB⟩:=a.c.bdd
 refine ⟨B+1,1,by decide,0,fun n _=>?_⟩
 have:=(hB n).2
 simp only [CS.add,CS.neg,CS.con];grind
theorem zFK (q:Rat):∃n:Nat,q<(n:Rat):=by
 refine ⟨(q.floor+1).toNat,?_⟩
 have h:=Rat.lt_floor_add_one q
 rcases Int.le_total 0 (q.floor+1) with k|k
 ·have e:((q.floor+1).toNat:Int)=q.floor+1:=Int.toNat_of_nonneg k
  have e2:(((q.floor+1).toNat:Nat):Rat)=((q.floor+1:Int):Rat):=by rw [<- Rat.intCast_natCast,e]
  rw [e2];exact h
 ·have k2:((q.floor+1:Int):Rat)<=0:=Rat.intCast_nonpos.2 k
  have k3:(0:Rat)<=(((q.floor+1).toNat:Nat):Rat):=Rat.natCast_nonneg
  grind
theorem zE1 (x:Re) {e:Rat} (he:0<e):∃q:Rat,x-rat q<rat e/\rat q-x<rat e:=by
 revert x;refine Re.ind fun a=>?_
 obtain ⟨N,hN⟩:=a.c (e/2) (zgh he)
 refine ⟨a.s N,⟨e/4,by grind,N,fun n hn=>?_⟩,⟨e/4,by grind,N,fun n hn=>?_⟩⟩
 ·have:=hN n N hn (Nat.le_refl N)
  simp only [CS.add,CS.neg,CS.con];grind
 ·have:=hN N n (Nat.le_refl N) hn
  simp only [CS.add,CS.neg,CS.con];grind
theorem zGe {x:Re}:x.pos->∃y,x*y=1:=by
 obtain ⟨a,rfl⟩:=x.rep
 rintro ⟨e,he,N,hN⟩
 have hc:Cau (fun n=>(a.s (n+N))⁻¹):=by
  intro d hd
  obtain ⟨M,hM⟩:=a.c (d*(e*e)) (Rat.mul_pos hd (Rat.mul_pos he he))
  refine ⟨M,fun m n hm hn=>?_⟩
  have u:=hM (n+N) (m+N) (by omega) (by omega)
  have um:=hN (m+N) (by omega)
  have un:=hN (n+N) (by omega)
  show (a.s (m+N))⁻¹-(a.s (n+N))⁻¹<d
  generalize a.s (m+N)=p at *
  generalize a.s (n+N)=q at *
  have hp:0<p:=by grind
  have hq:0<q:=by grind
  have hpq:0<p*q:=Rat.mul_pos hp hq
  have e1:(p⁻¹-q⁻¹)*(p*q)=q-p:=by
   have i1:=Rat.inv_mul_cancel p (by grind)
   have i2:=Rat.inv_mul_cancel q (by grind)
   grind
  have e2:d*(e*e)<=d*(p*q):=by
   have p1:0<(p-e)*q:=Rat.mul_pos (by grind) hq
   have p2:0<e*(q-e):=Rat.mul_pos he (by grind)
   have:e*e<=p*q:=by grind
   exact Rat.mul_le_mul_of_nonneg_left this (by grind)
  refine Rat.lt_of_mul_lt_mul_right (c:=p*q) ?_ (by grind)
  grind
 refine ⟨mk ⟨_,hc⟩,mk_eq.2 ?_⟩
 intro d hd
 have hf:∀n,N<=n->a.s n*(a.s n)⁻¹=1:=fun n hn=>Rat.mul_inv_cancel _ (by have:=hN n hn;grind)
 obtain ⟨B,b0,hB⟩:=hc.bdd
 obtain ⟨M,hM⟩:=a.c (d/B) (div_pos hd b0)
 refine ⟨max M N,fun n hn=>?_⟩
 have u1:=hM n (n+N) (by omega) (by omega)
 have u2:=hM (n+N) n (by omega) (by omega)
 have v:=zCJ (hB n).1 (hB n).2 (x:=a.s n-a.s (n+N)) (d:=d/B) (by grind) u1
 have w:=hf (n+N) (by omega)
 have z1:B*(d/B)=d:=by rw [Rat.mul_comm];exact Rat.div_mul_cancel (by grind)
 simp only [CS.mul,CS.con]
 grind
end Go.Proofs.YtkenfaengphiiaaGreatDoor.An
namespace Go.Proofs.YtkenfaengphiiaaGreatDoor.An
def npow (x:Re):Nat->Re
 | 0=>1
 | n+1=>npow x n*x
instance:Pow Re Nat:=⟨npow⟩
theorem pow_succ (x:Re) (n:Nat):x^(n+1)=x^n*x:=rfl
theorem zero_add (x:Re):0+x=x:=by rw [add_comm,add_zero]
theorem one_mul (x:Re):1*x=x:=by rw [mul_comm,mul_one]
theorem add_mul (x y z:Re):(x+y)*z=x*z+y*z:=by rw [mul_comm,mul_add,mul_comm z x,mul_comm z y]
theorem add_left_comm (x y z:Re):x+(y+z)=y+(x+z):=by rw [<- add_assoc,add_comm x y,add_assoc]
theorem mul_left_comm (x y z:Re):x*(y*z)=y*(x*z):=by rw [<- mul_assoc,mul_comm x y,mul_assoc]
theorem zpF {x y z:Re} (h:x+y=x+z):y=z:=by
 have: -x+(x+y)= -x+(x+z):=by rw [h]
 rwa [<- add_assoc,<- add_assoc,add_comm (-x) x,add_neg,zero_add,zero_add] at this
theorem mul_zero (x:Re):x*0=0:=by
 apply zpF (x:=x*0)
 rw [<- mul_add,add_zero,add_zero]
theorem zero_mul (x:Re):0*x=0:=by rw [mul_comm,mul_zero]
theorem neg_mul (x y:Re): -x*y= -(x*y):=by
 apply zpF (x:=x*y)
 rw [<- add_mul,add_neg,add_neg,zero_mul]
theorem neg_eq (x:Re): -x=rat (-1)*x:=by
 have:rat (-1)= - 1:=rfl
 rw [this,neg_mul,one_mul]
inductive PE where
 | v (n:Nat)
 | q (r:Rat)
 | add (a b:PE)
 | sub (a b:PE)
 | mul (a b:PE)
 | neg (a:PE)
 | pow (a:PE) (n:Nat)
def PE.ev (l:List Re):PE->Re
 | .v n=>l.getD n 0
 | .q r=>rat r
 | .add a b=>a.ev l+b.ev l
 | .sub a b=>a.ev l-b.ev l
 | .mul a b=>a.ev l*b.ev l
 | .neg a=> - a.ev l
 | .pow a n=>a.ev l^n
def mulv (i:Nat):List Nat->List Nat
 | []=> [i]
 | j::m=>bif Nat.ble i j then i::j::m else j::mulv i m
def mulm (m n:List Nat):List Nat:=m.foldr mulv n
def cmpm:List Nat->List Nat->Ordering
 | [],[]=> .eq
 | [],_::_=> .lt
 | _::_,[]=> .gt
 | i::m,j::n=>bif Nat.beq i j then cmpm m n else bif Nat.ble i j then .lt else .gt
theorem zH3 {m n:List Nat} (h:cmpm m n= .eq):m=n:=by
 induction m generalizing n with
 | nil=>cases n with
  | nil=>rfl
  | cons j n=>simp [cmpm] at h
 | cons i m ih=>cases n with
  | nil=>simp [cmpm] at h
  | cons j n=>
   simp only [cmpm] at h
   cases hb:Nat.beq i j
   ·rw [hb] at h;cases hc:Nat.ble i j<;>rw [hc] at h<;>cases h
   ·rw [hb] at h;rw [ih h,Nat.eq_of_beq_eq_true hb]
def addt (t:List Nat×Rat):List (List Nat×Rat)->List (List Nat×Rat)
 | []=> [t]
 | u::p=>match cmpm t.1 u.1 with
  | .lt=>t::u::p
  | .eq=>bif decide (t.2+u.2=0) then p else (t.1,t.2+u.2)::p
  | .gt=>u::addt t p
def addp (p q:List (List Nat×Rat)):List (List Nat×Rat):=p.foldr addt q
def mult (t:List Nat×Rat) (q r:List (List Nat×Rat)):List (List Nat×Rat):=q.foldr (fun u r=>addt (mulm t.1 u.1,t.2*u.2) r) r
def mulp (p q:List (List Nat×Rat)):List (List Nat×Rat):=p.foldr (fun t r=>mult t q r) []
def powp (p:List (List Nat×Rat)):Nat->List (List Nat×Rat)
 | 0=> [([],1)]
 | n+1=>mulp (powp p n) p
def PE.norm:PE->List (List Nat×Rat)
 | .v n=> [([n],1)]
 | .q r=>bif decide (r=0) then [] else [([],r)]
 | .add a b=>addp a.norm b.norm
 | .sub a b=>addp a.norm (mulp [([],-1)] b.norm)
 | .mul a b=>mulp a.norm b.norm
 | .neg a=>mulp [([],-1)] a.norm
 | .pow a n=>powp a.norm n
def evm (l:List Re) (m:List Nat):Re:=m.foldr (fun i x=>l.getD i 0*x) 1
def evp (l:List Re) (p:List (List Nat×Rat)):Re:=p.foldr (fun t x=>rat t.2*evm l t.1+x) 0
theorem zFm (l:List Re) (i:Nat) (m:List Nat):evm l (mulv i m)=l.getD i 0*evm l m:=by
 induction m with
 | nil=>rfl
 | cons j m ih=>
  simp only [mulv]
  cases Nat.ble i j
  ·show l.getD j 0*evm l (mulv i m)=l.getD i 0*(l.getD j 0*evm l m)
   rw [ih,mul_left_comm]
  ·rfl
theorem zFn (l:List Re) (m n:List Nat):evm l (mulm m n)=evm l m*evm l n:=by
 induction m with
 | nil=>exact (one_mul _).symm
 | cons i m ih=>
  show evm l (mulv i (mulm m n))=l.getD i 0*evm l m*evm l n
  rw [zFm,ih,mul_assoc]
theorem zEJ:rat 0=0:=rfl
theorem zAx (l:List Re) (t:List Nat×Rat) (p:List (List Nat×Rat)):evp l (addt t p)=rat t.2*evm l t.1+evp l p:=by
 induction p with
 | nil=>rfl
 | cons u p ih=>
  simp only [addt]
  cases hc:cmpm t.1 u.1
  ·rfl
  ·have e:=zH3 hc
   simp only
   have key:rat (t.2+u.2)*evm l t.1+evp l p=rat t.2*evm l t.1+evp l (u::p):=by
    show _=rat t.2*evm l t.1+(rat u.2*evm l u.1+evp l p)
    rw [zk4,add_mul,<- e,add_assoc]
   cases hz:decide (t.2+u.2=0)
   ·exact key
   ·have z:=of_decide_eq_true hz
    rw [<- key,z,zEJ,zero_mul,zero_add]
    rfl
  ·show rat u.2*evm l u.1+evp l (addt t p)=rat t.2*evm l t.1+(rat u.2*evm l u.1+evp l p)
   rw [ih,add_left_comm]
theorem zAy (l:List Re) (p q:List (List Nat×Rat)):evp l (addp p q)=evp l p+evp l q:=by
 induction p with
 | nil=>exact (zero_add _).symm
 | cons t p ih=>
  show evp l (addt t (addp p q))=rat t.2*evm l t.1+evp l p+evp l q
  rw [zAx,ih,add_assoc]
theorem zFl (l:List Re) (t:List Nat×Rat) (q r:List (List Nat×Rat)):evp l (mult t q r)=rat t.2*evm l t.1*evp l q+evp l r:=by
 induction q with
 | nil=>show evp l r=_*0+_;rw [mul_zero,zero_add]
 | cons u q ih=>
  show evp l (addt (mulm t.1 u.1,t.2*u.2) (mult t q r))=rat t.2*evm l t.1*(rat u.2*evm l u.1+evp l q)+evp l r
  rw [zAx,ih,zFn,zk3,mul_add]
  simp only [mul_assoc,add_assoc,mul_left_comm (evm l t.1) (rat u.2)]
theorem zqI (l:List Re) (p q:List (List Nat×Rat)):evp l (mulp p q)=evp l p*evp l q:=by
 induction p with
 | nil=>exact (zero_mul _).symm
 | cons t p ih=>
  show evp l (mult t q (mulp p q))=(rat t.2*evm l t.1+evp l p)*evp l q
  rw [zFl,ih,add_mul]
theorem zHI (l:List Re):evp l [([],1)]=1:=by
 show rat 1*1+0=1
 rw [add_zero,mul_one];rfl
theorem zxz (l:List Re):evp l [([],-1)]=rat (-1):=by
 show rat (-1)*1+0=_
 rw [add_zero,mul_one]
theorem zFk (l:List Re) (p:List (List Nat×Rat)) (n:Nat):evp l (powp p n)=evp l p^n:=by
 induction n with
 | zero=>exact zHI l
 | succ n ih=>
  show evp l (mulp (powp p n) p)=evp l p^n*evp l p
  rw [zqI,ih]
theorem PE.sound (l:List Re) (a:PE):evp l a.norm=a.ev l:=by
 induction a with
 | v n=>show rat 1*(l.getD n 0*1)+0=l.getD n 0;rw [mul_one,add_zero];exact one_mul _
 | q r=>
  simp only [PE.norm,PE.ev]
  cases hz:decide (r=0)
  ·show rat r*1+0=rat r;rw [add_zero,mul_one]
  ·rw [of_decide_eq_true hz];rfl
 | add a b iha ihb=>simp only [PE.norm,PE.ev,zAy,iha,ihb]
 | sub a b iha ihb=>simp only [PE.norm,PE.ev,zAy,zqI,zxz,iha,ihb,sub_eq,neg_eq (b.ev l)]
 | mul a b iha ihb=>simp only [PE.norm,PE.ev,zqI,iha,ihb]
 | neg a ih=>simp only [PE.norm,PE.ev,zqI,zxz,ih,neg_eq (a.ev l)]
 | pow a n ih=>simp only [PE.norm,PE.ev,zFk,ih]
theorem zb2 {x y:Re} (h:x-y=0):x=y:=by
 have:x + -y=y + -y:=by rw [add_neg];exact h
 rw [add_comm x,add_comm y] at this
 exact zpF this
class Rf (l:List Re) (x:Re) (e:outParam PE):Prop where
 eq:e.ev l=x
instance (priority:=low) rfAt0 {x:Re} {l:List Re}:Rf (x::l) x (.v 0):=⟨rfl⟩
instance (priority:=low) rfAt1 {v0 x:Re} {l:List Re}:Rf (v0::x::l) x (.v 1):=⟨rfl⟩
instance (priority:=low) rfAt2 {v0 v1 x:Re} {l:List Re}:Rf (v0::v1::x::l) x (.v 2):=⟨rfl⟩
instance (priority:=low) rfAt3 {v0 v1 v2 x:Re} {l:List Re}:Rf (v0::v1::v2::x::l) x (.v 3):=⟨rfl⟩
instance (priority:=low) rfAt4 {v0 v1 v2 v3 x:Re} {l:List Re}:Rf (v0::v1::v2::v3::x::l) x (.v 4):=⟨rfl⟩
instance (priority:=low) rfAt5 {v0 v1 v2 v3 v4 x:Re} {l:List Re}:Rf (v0::v1::v2::v3::v4::x::l) x (.v 5):=⟨rfl⟩
instance (priority:=low) rfAt6 {v0 v1 v2 v3 v4 v5 x:Re} {l:List Re}:Rf (v0::v1::v2::v3::v4::v5::x::l) x (.v 6):=⟨rfl⟩
instance (priority:=low) rfAt7 {v0 v1 v2 v3 v4 v5 v6 x:Re} {l:List Re}:Rf (v0::v1::v2::v3::v4::v5::v6::x::l) x (.v 7):=⟨rfl⟩
instance (priority:=low) rfAt8 {v0 v1 v2 v3 v4 v5 v6 v7 x:Re} {l:List Re}:Rf (v0::v1::v2::v3::v4::v5::v6::v7::x::l) x (.v 8):=⟨rfl⟩
instance (priority:=low) rfAt9 {v0 v1 v2 v3 v4 v5 v6 v7 v8 x:Re} {l:List Re}:Rf (v0::v1::v2::v3::v4::v5::v6::v7::v8::x::l) x (.v 9):=⟨rfl⟩
instance (priority:=low) rfAt10 {v0 v1 v2 v3 v4 v5 v6 v7 v8 v9 x:Re} {l:List Re}:Rf (v0::v1::v2::v3::v4::v5::v6::v7::v8::v9::x::l) x (.v 10):=⟨rfl⟩
instance (priority:=low) rfAt11 {v0 v1 v2 v3 v4 v5 v6 v7 v8 v9 v10 x:Re} {l:List Re}:Rf (v0::v1::v2::v3::v4::v5::v6::v7::v8::v9::v10::x::l) x (.v 11):=⟨rfl⟩
instance (priority:=low) rfAt12 {v0 v1 v2 v3 v4 v5 v6 v7 v8 v9 v10 v11 x:Re} {l:List Re}:Rf (v0::v1::v2::v3::v4::v5::v6::v7::v8::v9::v10::v11::x::l) x (.v 12):=⟨rfl⟩
instance (priority:=low) rfAt13 {v0 v1 v2 v3 v4 v5 v6 v7 v8 v9 v10 v11 v12 x:Re} {l:List Re}:Rf (v0::v1::v2::v3::v4::v5::v6::v7::v8::v9::v10::v11::v12::x::l) x (.v 13):=⟨rfl⟩
instance (priority:=low) rfAt14 {v0 v1 v2 v3 v4 v5 v6 v7 v8 v9 v10 v11 v12 v13 x:Re} {l:List Re}:Rf (v0::v1::v2::v3::v4::v5::v6::v7::v8::v9::v10::v11::v12::v13::x::l) x (.v 14):=⟨rfl⟩
instance (priority:=low) rfAt15 {v0 v1 v2 v3 v4 v5 v6 v7 v8 v9 v10 v11 v12 v13 v14 x:Re} {l:List Re}:Rf (v0::v1::v2::v3::v4::v5::v6::v7::v8::v9::v10::v11::v12::v13::v14::x::l) x (.v 15):=⟨rfl⟩
instance rfAdd {l:List Re} {x y:Re} {a b:PE} [h:Rf l x a] [k:Rf l y b]:Rf l (x+y) (.add a b):=⟨by rw [PE.ev,h.eq,k.eq]⟩
instance rfSub {l:List Re} {x y:Re} {a b:PE} [h:Rf l x a] [k:Rf l y b]:Rf l (x-y) (.sub a b):=⟨by rw [PE.ev,h.eq,k.eq]⟩
instance rfMul {l:List Re} {x y:Re} {a b:PE} [h:Rf l x a] [k:Rf l y b]:Rf l (x*y) (.mul a b):=⟨by rw [PE.ev,h.eq,k.eq]⟩
instance rfNeg {l:List Re} {x:Re} {a:PE} [h:Rf l x a]:Rf l (-x) (.neg a):=⟨by rw [PE.ev,h.eq]⟩
instance rfPow {l:List Re} {x:Re} {a:PE} {n:Nat} [h:Rf l x a]:Rf l (x^n) (.pow a n):=⟨by rw [PE.ev,h.eq]⟩
instance rfRat {l:List Re} {r:Rat}:Rf l (rat r) (.q r):=⟨rfl⟩
instance rfNum {l:List Re} {n:Nat}:Rf l (no_index (OfNat.ofNat n)) (.q (OfNat.ofNat n)):=⟨rfl⟩
def PE.nil (a:PE):Bool:=match a.norm with
 | []=>true
 | _=>false
theorem PE.nil_ev {a:PE} (h:a.nil=true) (l:List Re):a.ev l=0:=by
 rw [<- PE.sound]
 simp only [PE.nil] at h
 cases hn:a.norm with
 | nil=>rfl
 | cons t p=>rw [hn] at h;cases h
theorem ring (l:List Re) {x y:Re} {a b:PE} [h:Rf l x a] [k:Rf l y b] (e:(a.sub b).nil=true:=by kernel_rfl):x=y:=by
 have:=PE.nil_ev e l
 rw [PE.ev,h.eq,k.eq] at this
 exact zb2 this
theorem zhc (x:Re):0<x↔x.pos:=by
 rw [lt_def,show x-0=x from ring [x]]
theorem zrL {x y:Re}:x<y↔0<y-x:=by rw [zhc];rfl
theorem zp4 {x y:Re}:x<=y↔0<=y-x:=by
 show ¬(y<x)↔¬(y-x<0)
 rw [zrL,zrL (x:=y-x),show 0-(y-x)=x-y from ring [x,y]]
theorem not_le {x y:Re}:¬x<=y↔y<x:=Classical.not_not
theorem not_lt {x y:Re}:¬x<y↔y<=x:=Iff.rfl
theorem pp {x y:Re} (h:0<x) (k:0<y):0<x+y:=by rw [zhc] at *;exact zG7 h k
theorem mp {x y:Re} (h:0<x) (k:0<y):0<x*y:=by rw [zhc] at *;exact zG6 h k
theorem lt_irrefl (x:Re):¬x<x:=by
 rw [zrL,zhc,show x-x=0 from ring [x]];exact zxf
theorem lt_trans {x y z:Re} (h:x<y) (k:y<z):x<z:=by
 rw [zrL] at *
 have:=pp h k
 rwa [show y-x+(z-y)=z-x from ring [x,y,z]] at this
theorem le_of_lt {x y:Re} (h:x<y):x<=y:=fun k=>lt_irrefl x (lt_trans h k)
theorem tri (x y:Re):x<y\/x=y\/y<x:=by
 by_cases h:x<y
 ·exact .inl h
 by_cases k:y<x
 ·exact .inr (.inr k)
 rw [zrL,zhc] at h k
 refine .inr (.inl (zb2 (zG5 k ?_)))
 rwa [show -(x-y)=y-x from ring [x,y]]
theorem le_iff {x y:Re}:x<=y↔x<y\/x=y:=by
 constructor
 ·intro h
  rcases tri x y with k|k|k
  ·exact .inl k
  ·exact .inr k
  ·exact absurd k h
 ·rintro (h|rfl)
  ·exact le_of_lt h
  ·exact lt_irrefl _
theorem le_refl (x:Re):x<=x:=lt_irrefl x
theorem le_of_eq {x y:Re} (h:x=y):x<=y:=h▸le_refl x
theorem lt_of_lt_of_le {x y z:Re} (h:x<y) (k:y<=z):x<z:=by
 rcases le_iff.1 k with k|rfl
 ·exact lt_trans h k
 ·exact h
theorem lt_of_le_of_lt {x y z:Re} (h:x<=y) (k:y<z):x<z:=by
 rcases le_iff.1 h with h|rfl
 ·exact lt_trans h k
 ·exact k
theorem le_trans {x y z:Re} (h:x<=y) (k:y<=z):x<=z:=by
 rcases le_iff.1 h with h|rfl
 ·exact le_of_lt (lt_of_lt_of_le h k)
 ·exact k
theorem le_total (x y:Re):x<=y\/y<=x:=by
 rcases tri x y with h|rfl|h
 ·exact .inl (le_of_lt h)
 ·exact .inl (le_refl _)
 ·exact .inr (le_of_lt h)
theorem le_antisymm {x y:Re} (h:x<=y) (k:y<=x):x=y:=by
 rcases le_iff.1 h with h|h
 ·exact absurd h k
 ·exact h
theorem lt_or_le (x y:Re):x<y\/y<=x:=by
 rcases tri x y with h|rfl|h
 ·exact .inl h
 ·exact .inr (le_refl _)
 ·exact .inr (le_of_lt h)
theorem pn {x y:Re} (h:0<=x) (k:0<=y):0<=x+y:=by
 rcases le_iff.1 h with h|rfl
 ·rcases le_iff.1 k with k|rfl
  ·exact le_of_lt (pp h k)
  ·rw [add_zero];exact le_of_lt h
 ·rw [zero_add];exact k
theorem mn {x y:Re} (h:0<=x) (k:0<=y):0<=x*y:=by
 rcases le_iff.1 h with h|rfl
 ·rcases le_iff.1 k with k|rfl
  ·exact le_of_lt (mp h k)
  ·rw [mul_zero];exact le_refl _
 ·rw [zero_mul];exact le_refl _
theorem ppn {x y:Re} (h:0<x) (k:0<=y):0<x+y:=by
 rcases le_iff.1 k with k|rfl
 ·exact pp h k
 ·rw [add_zero];exact h
theorem pnp {x y:Re} (h:0<=x) (k:0<y):0<x+y:=by rw [add_comm];exact ppn k h
theorem sn {x y:Re} (h:x<=y):0<=y-x:=zp4.1 h
theorem sp {x y:Re} (h:x<y):0<y-x:=zrL.1 h
theorem zU (l:List Re) {x y p:Re} (hp:0<=p) {a b c:PE} [h:Rf l x a] [k:Rf l y b] [m:Rf l p c] (e:((b.sub a).sub c).nil=true:=by kernel_rfl):x<=y:=by
 have:=PE.nil_ev e l
 simp only [PE.ev,h.eq,k.eq,m.eq] at this
 rw [zp4,zb2 this];exact hp
theorem zfU (l:List Re) {x y p:Re} (hp:0<p) {a b c:PE} [h:Rf l x a] [k:Rf l y b] [m:Rf l p c] (e:((b.sub a).sub c).nil=true:=by kernel_rfl):x<y:=by
 have:=PE.nil_ev e l
 simp only [PE.ev,h.eq,k.eq,m.eq] at this
 rw [zrL,zb2 this];exact hp
theorem zj9 (l:List Re) {x y p q:Re} (hp:p=q) {a b c d:PE} [h:Rf l x a] [k:Rf l y b] [m:Rf l p c] [n:Rf l q d] (e:((a.sub b).sub (c.sub d)).nil=true:=by kernel_rfl):x=y:=by
 have:=PE.nil_ev e l
 simp only [PE.ev,h.eq,k.eq,m.eq,n.eq] at this
 refine zb2 ((zb2 this).trans ?_)
 rw [hp];exact ring [q]
theorem zt5 {p q:Rat}:rat p<rat q↔p<q:=by
 rw [lt_def,show rat q-rat p=rat (q + -p) from rfl,zGX,<- Rat.sub_eq_add_neg,<- Rat.lt_iff_sub_pos]
theorem zkP {p q:Rat}:rat p<=rat q↔p<=q:=by
 show ¬(rat q<rat p)↔_
 rw [zt5,Rat.not_lt]
theorem zwH {q:Rat} (h:0<=q):0<=rat q:=zkP.2 h
theorem zwG {q:Rat} (h:0<q):0<rat q:=zt5.2 h
theorem qn (q:Rat) (h:decide (0<=q)=true:=by kernel_rfl):0<=rat q:=zwH (of_decide_eq_true h)
theorem qp (q:Rat) (h:decide (0<q)=true:=by kernel_rfl):0<rat q:=zwG (of_decide_eq_true h)
theorem zj1 (p q:Rat) (h:decide (p<=q)=true:=by kernel_rfl):rat p<=rat q:=zkP.2 (of_decide_eq_true h)
theorem zz5 (p q:Rat) (h:decide (p<q)=true:=by kernel_rfl):rat p<rat q:=zt5.2 (of_decide_eq_true h)
theorem kn (q:Rat) {x:Re} (hx:0<=x) (h:decide (0<=q)=true:=by kernel_rfl):0<=rat q*x:=mn (qn q h) hx
theorem kp (q:Rat) {x:Re} (hx:0<x) (h:decide (0<q)=true:=by kernel_rfl):0<rat q*x:=mp (qp q h) hx
theorem sqn (x:Re):0<=x*x:=by
 rcases le_total 0 x with h|h
 ·exact mn h h
 ·have:=mn (sn h) (sn h)
  exact zU [x] this
theorem zy4 {x:Re} (h:x≠0):∃y,x*y=1:=by
 rcases tri 0 x with k|k|k
 ·exact zGe ((zhc x).1 k)
 ·exact absurd k.symm h
 ·have k2:0 < -x:=zfU [x] (sp k)
  obtain ⟨y,hy⟩:=zGe ((zhc _).1 k2)
  exact ⟨-y,(ring [x,y]:x * -y= -x*y).trans hy⟩
open Classical in
def Re.inv (x:Re):Re:=if h:x≠0 then Classical.choose (zy4 h) else 0
instance:Inv Re:=⟨Re.inv⟩
instance:Div Re:=⟨fun x y=>x*y⁻¹⟩
theorem div_eq (x y:Re):x/y=x*y⁻¹:=rfl
theorem zjh {x:Re} (h:x≠0):x*x⁻¹=1:=by
 show x*Re.inv x=1
 rw [Re.inv,dif_pos h];exact Classical.choose_spec (zy4 h)
theorem ne_of_gt {x y:Re} (h:x<y):y≠x:=fun e=>lt_irrefl x (e▸h)
theorem ne_of_lt {x y:Re} (h:x<y):x≠y:=fun e=>lt_irrefl x (e▸h)
theorem div_mul {x y:Re} (h:y≠0):x/y*y=x:=by
 rw [div_eq]
 exact zj9 [x,y,y⁻¹] (congrArg (fun z=>x*z) (zjh h):x*(y*y⁻¹)=x*1)
theorem zy3 {x:Re} (h:0<x):0<x⁻¹:=by
 have e:=zjh (ne_of_gt h)
 rcases lt_or_le 0 x⁻¹ with k|k
 ·exact k
 ·have:=mn (le_of_lt h) (sn k)
  have e2:x*(0-x⁻¹)= -1:=zj9 [x,x⁻¹] (congrArg (fun z=> -z) e: -(x*x⁻¹)= -1)
  rw [e2] at this
  exact absurd (zfU [] (qp 1):(-1:Re)<0) this
theorem zBv {x y:Re} (h:0<x) (k:0<y):0<x/y:=mp h (zy3 k)
theorem zHV {x y:Re} (h:0<=x) (k:0<y):0<=x/y:=mn h (le_of_lt (zy3 k))
theorem zdM {x y z:Re} (hz:0<z) (h:x*z<=y*z):x<=y:=by
 rcases lt_or_le y x with k|k
 ·have:=mp (sp k) hz
  exact absurd (zfU [x,y,z] this) h
 ·exact k
theorem zgN {x y z:Re} (hz:z≠0) (h:x*z=y*z):x=y:=by
 have e:=zjh hz
 have a1:x*z*z⁻¹=y*z*z⁻¹:=by rw [h]
 have a2:x*z*z⁻¹=x*(z*z⁻¹):=mul_assoc _ _ _
 have a3:y*z*z⁻¹=y*(z*z⁻¹):=mul_assoc _ _ _
 rw [a2,a3,e,mul_one,mul_one] at a1
 exact a1
theorem zuq {x y z:Re} (hy:0<y):x/y<=z↔x<=z*y:=by
 constructor
 ·intro h
  have:=mn (sn h) (le_of_lt hy)
  have e:(z-x/y)*y=z*y-x:=by
   rw [show (z-x/y)*y=z*y-x/y*y from ring [z,x/y,y],div_mul (ne_of_gt hy)]
  rw [e] at this
  exact zp4.2 this
 ·intro h
  refine zdM hy ?_
  rwa [div_mul (ne_of_gt hy)]
theorem zrR {x y z:Re} (hy:0<y):z<=x/y↔z*y<=x:=by
 constructor
 ·intro h
  have:=mn (sn h) (le_of_lt hy)
  have e:(x/y-z)*y=x-z*y:=by
   rw [show (x/y-z)*y=x/y*y-z*y from ring [z,x/y,y],div_mul (ne_of_gt hy)]
  rw [e] at this
  exact zp4.2 this
 ·intro h
  refine zdM hy ?_
  rwa [div_mul (ne_of_gt hy)]
theorem div_lt {x y z:Re} (hy:0<y):x/y<z↔x<z*y:=by
 rw [<- not_le,zrR hy,not_le]
theorem arch (x:Re):∃n:Nat,x<rat n:=by
 obtain ⟨q,hq⟩:=zFJ x
 obtain ⟨n,hn⟩:=zFK q
 exact ⟨n,lt_trans hq (zt5.2 hn)⟩
theorem zC3 {x c:Re} (h:∀n:Nat,0<n->x*rat n<=c):x<=0:=by
 rcases lt_or_le 0 x with k|k
 ·obtain ⟨n,hn⟩:=arch (c/x)
  rw [div_lt k] at hn
  have h1:=h (n+1) (Nat.succ_pos n)
  have e:rat ((n+1:Nat):Rat)=rat n+1:=by
   rw [show ((n+1:Nat):Rat)=(n:Rat)+1 from Rat.natCast_add n 1,zk4];rfl
  rw [e] at h1
  have:x*(rat n+1)<=x*rat n:=le_trans h1 (le_of_lt (by rw [mul_comm];exact hn))
  generalize rat (n:Rat)=r at this
  exact absurd (zfU [x,r] k:x*r<x*(r+1)) this
 ·exact k
end Go.Proofs.YtkenfaengphiiaaGreatDoor.An
namespace Go.Proofs.YtkenfaengphiiaaGreatDoor.An
open Classical in
def abs (x:Re):Re:=if 0<=x then x else -x
theorem zbM {x:Re} (h:0<=x):abs x=x:=by rw [abs,if_pos h]
theorem zgi {x:Re} (h:x<=0):abs x= -x:=by
 by_cases k:0<=x
 ·have:x=0:=le_antisymm h k
  subst this;rw [zbM k];exact ring []
 ·rw [abs,if_neg k]
theorem zmh {x:Re} (h:x<=0):0 <= -x:=zU [x] (sn h)
theorem zeS (x:Re):0<=abs x:=by
 rcases le_total 0 x with h|h
 ·rw [zbM h];exact h
 ·rw [zgi h];exact zmh h
theorem zoA (x:Re):x<=abs x:=by
 rcases le_total 0 x with h|h
 ·rw [zbM h];exact le_refl _
 ·exact le_trans h (zeS x)
theorem zih (x:Re): -x<=abs x:=by
 rcases le_total 0 x with h|h
 ·exact le_trans (zU [x] h) (zeS x)
 ·rw [zgi h];exact le_refl _
theorem zeT {x c:Re} (h: -c<=x) (k:x<=c):abs x<=c:=by
 rcases le_total 0 x with m|m
 ·rw [zbM m];exact k
 ·rw [zgi m];exact zU [x,c] (sn h)
theorem zdT {x c:Re} (h:abs x<=c): -c<=x/\x<=c:=by
 have h1:=le_trans (zoA x) h
 have h2:=le_trans (zih x) h
 exact ⟨zU [x,c] (sn h2),h1⟩
theorem abs_neg (x:Re):abs (-x)=abs x:=by
 rcases le_total 0 x with h|h
 ·rw [zbM h,zgi (zU [x] h)];exact ring [x]
 ·rw [zgi h,zbM (zmh h)]
theorem zqS (x y:Re):abs (x-y)=abs (y-x):=by rw [<- abs_neg,show -(x-y)=y-x from ring [x,y]]
theorem zji (x y:Re):abs (x+y)<=abs x+abs y:=by
 have a1:=zoA x
 have a2:=zoA y
 have b1:=zih x
 have b2:=zih y
 generalize abs x=p at *
 generalize abs y=q at *
 exact zeT (zU [x,y,p,q] (pn (sn b1) (sn b2))) (zU [x,y,p,q] (pn (sn a1) (sn a2)))
theorem zl4 (x y:Re):abs (x*y)=abs x*abs y:=by
 rcases le_total 0 x with h|h<;>rcases le_total 0 y with k|k
 ·rw [zbM h,zbM k,zbM (mn h k)]
 ·rw [zbM h,zgi k,zgi (zU [x,y] (mn h (zmh k)))];exact ring [x,y]
 ·rw [zgi h,zbM k,zgi (zU [x,y] (mn (zmh h) k))];exact ring [x,y]
 ·rw [zgi h,zgi k,zbM (zU [x,y] (mn (zmh h) (zmh k)))];exact ring [x,y]
theorem abs_zero:abs 0=0:=zbM (le_refl 0)
theorem zsg (x:Re):abs x*abs x=x*x:=by rw [<- zl4,zbM (sqn x)]
theorem zEc (x y z:Re):abs (x-z)<=abs (x-y)+abs (y-z):=by
 have:=zji (x-y) (y-z)
 rwa [show x-y+(y-z)=x-z from ring [x,y,z]] at this
theorem zgw {a b c d:Re} (h:a<=b) (k:c<=d):a+c<=b+d:=zU [a,b,c,d] (pn (sn h) (sn k))
theorem zxk {a b c d:Re} (ha:0<=a) (h:a<=b) (hc:0<=c) (k:c<=d):a*c<=b*d:=
 zU [a,b,c,d] (pn (mn (sn h) (le_trans hc k)) (mn ha (sn k)))
theorem zvy {a c d:Re} (ha:0<=a) (k:c<=d):a*c<=a*d:=zU [a,c,d] (mn ha (sn k))
theorem zeD {x y a b:Re} (h:abs x<=a) (k:abs y<=b):abs (x*y)<=a*b:=by
 rw [zl4];exact zxk (zeS x) h (zeS y) k
theorem zl5 {x:Re} (h:abs x<=0):x=0:=by
 obtain ⟨a,b⟩:=zdT h
 exact le_antisymm b (zU [x] (sn a))
theorem zxw {e:Re} (h:0<e):0<e*rat (1/2):=mp h (qp _)
theorem zrM {x:Re} (h:∀e:Re,0<e->x<=e):x<=0:=by
 rcases lt_or_le 0 x with k|k
 ·have:=h _ (zxw k)
  exact absurd (zfU [x] (zxw k):x*rat (1/2)<x) this
 ·exact k
def Lim (s:Nat->Re) (x:Re):Prop:=∀e:Re,0<e->∃N,∀n,N<=n->abs (s n-x)<=e
theorem Lim.unique {s:Nat->Re} {x y:Re} (h:Lim s x) (k:Lim s y):x=y:=by
 refine zb2 (zl5 (zrM fun e he=>?_))
 obtain ⟨N,hN⟩:=h _ (zxw he)
 obtain ⟨M,hM⟩:=k _ (zxw he)
 have a:=hN (max N M) (by omega)
 have b:=hM (max N M) (by omega)
 generalize s (max N M)=z at *
 rw [zqS] at a
 have:=le_trans (zEc x z y) (zgw a b)
 rwa [show e*rat (1/2)+e*rat (1/2)=e from ring [e]] at this
theorem Lim.const (x:Re):Lim (fun _=>x) x:=fun e he=>⟨0,fun n _=>by show abs (x-x)<=e;rw [show x-x=0 from ring [x],abs_zero];exact le_of_lt he⟩
theorem Lim.add {s t:Nat->Re} {x y:Re} (h:Lim s x) (k:Lim t y):Lim (fun n=>s n+t n) (x+y):=by
 intro e he
 obtain ⟨N,hN⟩:=h _ (zxw he)
 obtain ⟨M,hM⟩:=k _ (zxw he)
 refine ⟨max N M,fun n hn=>?_⟩
 have:=le_trans (zji (s n-x) (t n-y)) (zgw (hN n (by omega)) (hM n (by omega)))
 show abs (s n+t n-(x+y))<=e
 generalize s n=u at *
 generalize t n=v at *
 rwa [show u-x+(v-y)=u+v-(x+y) from ring [u,v,x,y],show e*rat (1/2)+e*rat (1/2)=e from ring [e]] at this
theorem Lim.smul {s:Nat->Re} {x:Re} (c:Re) (h:Lim s x):Lim (fun n=>c*s n) (c*x):=by
 intro e he
 have h0:0<1+abs c:=ppn (qp 1) (zeS c)
 obtain ⟨N,hN⟩:=h (e/(1+abs c)) (zBv he h0)
 refine ⟨N,fun n hn=>?_⟩
 have a:=hN n hn
 show abs (c*s n-c*x)<=e
 generalize s n=u at *
 rw [show c*u-c*x=c*(u-x) from ring [c,u,x],zl4]
 rw [zrR h0] at a
 have b:=zeS (u-x)
 generalize abs (u-x)=p at *
 generalize abs c=q at *
 exact zU [e,p,q] (pn (sn a) b)
theorem Lim.congr {s t:Nat->Re} {x:Re} (h:Lim s x) (k:∀n,s n=t n):Lim t x:=by rwa [<- show s=t from funext k]
theorem Lim.neg {s:Nat->Re} {x:Re} (h:Lim s x):Lim (fun n=> - s n) (-x):=by
 have:=(h.smul (-1)).congr (t:=fun n=> - s n) (fun n=>by show -1*s n= - s n;generalize s n=u;exact ring [u])
 rwa [show -1*x= -x from ring [x]] at this
theorem Lim.sub {s t:Nat->Re} {x y:Re} (h:Lim s x) (k:Lim t y):Lim (fun n=>s n-t n) (x-y):=h.add k.neg
theorem Lim.le {s:Nat->Re} {x c:Re} (h:Lim s x) (k:∃M,∀n,M<=n->s n<=c):x<=c:=by
 have:x-c<=0:=zrM fun e he=>by
  obtain ⟨N,hN⟩:=h e he
  obtain ⟨M,hM⟩:=k
  have a:=(zdT (hN (max N M) (by omega))).1
  have b:=hM (max N M) (by omega)
  generalize s (max N M)=z at *
  exact zU [x,c,e,z] (pn (sn a) (sn b))
 exact zU [x,c] (sn this)
theorem Lim.ge {s:Nat->Re} {x c:Re} (h:Lim s x) (k:∃M,∀n,M<=n->c<=s n):c<=x:=by
 obtain ⟨M,hM⟩:=k
 have:=h.neg.le (c:= -c) ⟨M,fun n hn=>by have:=hM n hn;generalize s n=u at *;exact zU [u,c] (sn this)⟩
 exact zU [x,c] (sn this)
theorem Lim.absle {s:Nat->Re} {x c:Re} (h:Lim s x) (k:∃M,∀n,M<=n->abs (s n)<=c):abs x<=c:=by
 obtain ⟨M,hM⟩:=k
 exact zeT (h.ge ⟨M,fun n hn=>(zdT (hM n hn)).1⟩) (h.le ⟨M,fun n hn=>(zdT (hM n hn)).2⟩)
theorem Lim.tail {s:Nat->Re} {x:Re} (h:Lim s x) (k:Nat):Lim (fun n=>s (n+k)) x:=by
 intro e he
 obtain ⟨N,hN⟩:=h e he
 exact ⟨N,fun n hn=>hN (n+k) (by omega)⟩
theorem zqF {k n:Nat} (h:k<=n):(rat (1/((n:Rat)+1)):Re)<=rat (1/((k:Rat)+1)):=by
 rw [zkP]
 have h1:(k:Rat)<=(n:Rat):=Rat.natCast_le_natCast.2 h
 have h0:(0:Rat)<=(k:Rat):=Rat.natCast_nonneg
 have p1:0<(n:Rat)+1:=by grind
 have p2:0<(k:Rat)+1:=by grind
 refine Rat.le_of_mul_le_mul_right (c:=((n:Rat)+1)*((k:Rat)+1)) ?_ (Rat.mul_pos p1 p2)
 have e1:1/((n:Rat)+1)*((n:Rat)+1)=1:=Rat.div_mul_cancel (by grind)
 have e2:1/((k:Rat)+1)*((k:Rat)+1)=1:=Rat.div_mul_cancel (by grind)
 generalize 1/((n:Rat)+1)=p at *
 generalize 1/((k:Rat)+1)=q at *
 generalize (n:Rat)=n' at *
 generalize (k:Rat)=k' at *
 have f1:p*((n'+1)*(k'+1))=k'+1:=by grind
 have f2:q*((n'+1)*(k'+1))=n'+1:=by grind
 rw [f1,f2];grind
theorem zza {e:Re} (he:0<e):∃n:Nat,rat (1/((n:Rat)+1))<=e:=by
 obtain ⟨n,hn⟩:=arch (1/e)
 refine ⟨n,?_⟩
 rw [div_lt he] at hn
 have h0:(0:Rat)<=(n:Rat):=Rat.natCast_nonneg
 have p1:0<(n:Rat)+1:=by grind
 have e1:rat (1/((n:Rat)+1))*rat ((n:Rat)+1)=1:=by
  rw [<- zk3,Rat.div_mul_cancel (by grind)];rfl
 refine zdM (zwG p1) ?_
 rw [e1,zk4,show rat 1=(1:Re) from rfl]
 generalize rat (n:Rat)=r at *
 exact zU [r,e] (pn (le_of_lt (sp hn)) (le_of_lt he))
theorem complete {s:Nat->Re} (h:∀e:Re,0<e->∃N,∀m n,N<=m->N<=n->s m-s n<=e):∃x,Lim s x:=by
 have hq:∀n:Nat,∃q:Rat,s n-rat q<rat (1/((n:Rat)+1))/\rat q-s n<rat (1/((n:Rat)+1)):=fun n=>
  zE1 (s n) (by have h0:(0:Rat)<=(n:Rat):=Rat.natCast_nonneg;exact div_pos (by decide) (by grind))
 let q:Nat->Rat:=fun n=>Classical.choose (hq n)
 have q1:∀n,s n-rat (q n)<rat (1/((n:Rat)+1)):=fun n=>(Classical.choose_spec (hq n)).1
 have q2:∀n,rat (q n)-s n<rat (1/((n:Rat)+1)):=fun n=>(Classical.choose_spec (hq n)).2
 generalize q=q at q1 q2
 have key:∀e:Re,0<e->∃N,∀m n,N<=m->N<=n->rat (q m)-rat (q n)<e:=by
  intro e he
  have he4:0<e*rat (1/4):=mp he (qp _)
  obtain ⟨N,hN⟩:=h _ he4
  obtain ⟨k,hk⟩:=zza he4
  refine ⟨max N k,fun m n hm hn=>?_⟩
  have a:=hN m n (by omega) (by omega)
  have b1:=le_of_lt (q2 m)
  have b2:=le_of_lt (q1 n)
  have c1:=le_trans b1 (le_trans (zqF (show k<=m by omega)) hk)
  have c2:=le_trans b2 (le_trans (zqF (show k<=n by omega)) hk)
  generalize rat (q m)=u at *
  generalize rat (q n)=v at *
  generalize s m=x at *
  generalize s n=y at *
  exact zfU [u,v,x,y,e] (ppn he4 (pn (pn (sn c1) (sn c2)) (sn a)))
 have hc:Cau q:=by
  intro d hd
  obtain ⟨N,hN⟩:=key (rat d) (zwG hd)
  refine ⟨N,fun m n hm hn=>?_⟩
  have:=hN m n hm hn
  rw [sub_eq,<- zyv,<- zk4,zt5] at this
  grind
 refine ⟨mk ⟨q,hc⟩,fun e he=>?_⟩
 have he2:=zxw he
 -- a rational number below e / 2
 obtain ⟨j,hj⟩:=zza he2
 have hjp:0<1/((j:Rat)+1):=by have h0:(0:Rat)<=(j:Rat):=Rat.natCast_nonneg;exact div_pos (by decide) (by grind)
 obtain ⟨N,hN⟩:=hc _ hjp
 obtain ⟨k,hk⟩:=zza he2
 refine ⟨max N k,fun n hn=>?_⟩
 have l1:rat (q n)-mk ⟨q,hc⟩<=rat (1/((j:Rat)+1)):=by
  rintro ⟨f,hf,M,hM⟩
  have a:=hM (max N M) (by omega)
  have b:=hN n (max N M) (by omega) (by omega)
  simp only [CS.add,CS.neg,CS.con] at a
  grind
 have l2:mk ⟨q,hc⟩-rat (q n)<=rat (1/((j:Rat)+1)):=by
  rintro ⟨f,hf,M,hM⟩
  have a:=hM (max N M) (by omega)
  have b:=hN (max N M) n (by omega) (by omega)
  simp only [CS.add,CS.neg,CS.con] at a
  grind
 have m1:=le_trans l1 hj
 have m2:=le_trans l2 hj
 have c1:=le_trans (le_of_lt (q1 n)) (le_trans (zqF (show k<=n by omega)) hk)
 have c2:=le_trans (le_of_lt (q2 n)) (le_trans (zqF (show k<=n by omega)) hk)
 generalize mk ⟨q,hc⟩=L at *
 generalize rat (q n)=u at *
 generalize s n=x at *
 exact zeT (zU [x,L,u,e] (pn (sn m2) (sn c2))) (zU [x,L,u,e] (pn (sn m1) (sn c1)))
theorem zzG (n:Nat):(n:Rat)<=(2:Rat)^n:=by
 induction n with
 | zero=>decide
 | succ n ih=>
  rw [Rat.pow_succ,show ((n+1:Nat):Rat)=(n:Rat)+1 from Rat.natCast_add n 1]
  rcases n with _|n
  ·decide +kernel
  ·rw [show ((n+1:Nat):Rat)=(n:Rat)+1 from Rat.natCast_add n 1] at *
   have h0:(0:Rat)<=(n:Rat):=Rat.natCast_nonneg
   grind
open Classical in
def bis (f:Re->Re) (a b:Re):Nat->Re×Re
 | 0=>(a,b)
 | n+1=>let p:=bis f a b n;let m:=(p.1+p.2)*rat (1/2);if f m<=0 then (m,p.2) else (p.1,m)
theorem zvS (f:Re->Re) (a b:Re) (n:Nat) (h:(bis f a b n).1<=(bis f a b n).2):
  (bis f a b n).1<=(bis f a b (n+1)).1/\(bis f a b (n+1)).2<=(bis f a b n).2/\(bis f a b (n+1)).1<=(bis f a b (n+1)).2 /\
   (bis f a b (n+1)).2-(bis f a b (n+1)).1=((bis f a b n).2-(bis f a b n).1)*rat (1/2):=by
 simp only [bis]
 generalize bis f a b n=p at *
 obtain ⟨u,v⟩:=p
 simp only at *
 have h2:=mn (sn h) (qn (1/2))
 by_cases k:f ((u+v)*rat (1/2))<=0
 ·rw [if_pos k];exact ⟨zU [u,v] h2,le_refl _,zU [u,v] h2,ring [u,v]⟩
 ·rw [if_neg k];exact ⟨le_refl _,zU [u,v] h2,zU [u,v] h2,ring [u,v]⟩
theorem zxH (f:Re->Re) {a b:Re} (h:a<=b) (n:Nat):(bis f a b n).1<=(bis f a b n).2:=by
 induction n with
 | zero=>exact h
 | succ n ih=>exact (zvS f a b n ih).2.2.1
theorem zvT (f:Re->Re) {a b:Re} (h:a<=b) (n m:Nat):(bis f a b n).1<=(bis f a b (n+m)).1/\(bis f a b (n+m)).2<=(bis f a b n).2:=by
 induction m with
 | zero=>exact ⟨le_refl _,le_refl _⟩
 | succ m ih=>
  have:=zvS f a b (n+m) (zxH f h _)
  exact ⟨le_trans ih.1 this.1,le_trans this.2.1 ih.2⟩
theorem zDW (f:Re->Re) {a b:Re} (h:a<=b) (n:Nat):((bis f a b n).2-(bis f a b n).1)*rat ((2:Rat)^n)=b-a:=by
 induction n with
 | zero=>show (b-a)*rat 1=b-a;exact mul_one _
 | succ n ih=>
  rw [(zvS f a b n (zxH f h n)).2.2.2,Rat.pow_succ,zk3,<- ih]
  generalize (bis f a b n).2-(bis f a b n).1=w
  generalize rat ((2:Rat)^n)=t
  exact ring [w,t]
theorem zFB (f:Re->Re) {a b:Re} (ha:f a<=0) (hb:0<=f b) (n:Nat):f (bis f a b n).1<=0/\0<=f (bis f a b n).2:=by
 induction n with
 | zero=>exact ⟨ha,hb⟩
 | succ n ih=>
  simp only [bis]
  generalize bis f a b n=p at *
  by_cases k:f ((p.1+p.2)*rat (1/2))<=0
  ·rw [if_pos k];exact ⟨k,ih.2⟩
  ·rw [if_neg k];exact ⟨ih.1,le_of_lt (not_le.1 k)⟩
theorem zuB {f:Re->Re} {a b K:Re} (h:a<=b) (hK:0<=K) (hl:∀x y,a<=x->x<=b->a<=y->y<=b->abs (f x-f y)<=K*abs (x-y))
  (ha:f a<=0) (hb:0<=f b):∃c,a<=c/\c<=b/\f c=0:=by
 have hw:∀e:Re,0<e->∃N,∀n,N<=n->(bis f a b n).2-(bis f a b n).1<=e:=by
  intro e he
  obtain ⟨N,hN⟩:=arch ((b-a)/e)
  refine ⟨N,fun n hn=>?_⟩
  rw [div_lt he] at hN
  have h2:rat (N:Rat)<=rat ((2:Rat)^n):=zkP.2 (Rat.le_trans (Rat.natCast_le_natCast.2 hn) (zzG n))
  have h3:=zDW f h n
  refine zdM (z:=rat ((2:Rat)^n)) (zwG (Rat.pow_pos (by decide))) ?_
  rw [h3]
  generalize rat ((2:Rat)^n)=t at *
  generalize rat (N:Rat)=r at *
  exact zU [e,t,r,a,b] (pn (le_of_lt (sp hN)) (mn (sn h2) (le_of_lt he)))
 have hc:∀e:Re,0<e->∃N,∀m n,N<=m->N<=n->(bis f a b m).1-(bis f a b n).1<=e:=by
  intro e he
  obtain ⟨N,hN⟩:=hw e he
  refine ⟨N,fun m n hm hn=>?_⟩
  have w:=hN N (Nat.le_refl N)
  obtain ⟨i,rfl⟩:=Nat.exists_eq_add_of_le hm
  obtain ⟨j,rfl⟩:=Nat.exists_eq_add_of_le hn
  have p:=zvT f h N i
  have q:=zvT f h N j
  have r:=zxH f h (N+i)
  generalize (bis f a b (N+i)).1=x1 at *
  generalize (bis f a b (N+i)).2=x2 at *
  generalize (bis f a b (N+j)).1=y1 at *
  generalize (bis f a b N).1=z1 at *
  generalize (bis f a b N).2=z2 at *
  exact zU [x1,x2,y1,z1,z2,e] (pn (pn (pn (sn r) (sn p.2)) (sn q.1)) (sn w))
 obtain ⟨c,hlim⟩:=complete hc
 have m0:∀n,a<=(bis f a b n).1/\(bis f a b n).2<=b:=fun n=>by have:=zvT f h 0 n;rw [Nat.zero_add] at this;exact this
 have ca:a<=c:=hlim.ge ⟨0,fun n _=>(m0 n).1⟩
 have cb:c<=b:=hlim.le ⟨0,fun n _=>le_trans (zxH f h n) (m0 n).2⟩
 refine ⟨c,ca,cb,?_⟩
 have hK1:0<1+K:=ppn (qp 1) hK
 refine zl5 (zrM fun e he=>?_)
 have he2:0<e/(1+K)*rat (1/2):=zxw (zBv he hK1)
 have hee:e/(1+K)*(1+K)=e:=div_mul (ne_of_gt hK1)
 obtain ⟨N,hN⟩:=hlim _ he2
 obtain ⟨M,hM⟩:=hw _ he2
 have l1:abs ((bis f a b (max N M)).1-c)<=e/(1+K)*rat (1/2):=hN (max N M) (by omega)
 have l2:=hM (max N M) (by omega)
 have l3:=zxH f h (max N M)
 have l4:=zFB f ha hb (max N M)
 have l5:=m0 (max N M)
 have u1:=hl c (bis f a b (max N M)).1 ca cb l5.1 (le_trans l3 l5.2)
 have u2:=hl c (bis f a b (max N M)).2 ca cb (le_trans l5.1 l3) l5.2
 generalize (bis f a b (max N M)).1=x at *
 generalize (bis f a b (max N M)).2=y at *
 have v1:abs (c-x)<=e/(1+K):=by
  rw [zqS];generalize e/(1+K)=d at *;exact zU [abs (x-c),d] (pn (sn l1) (le_of_lt he2))
 have v2:abs (c-y)<=e/(1+K):=by
  have:=zEc c x y
  have t1:abs (x-y)=y-x:=by rw [zqS];exact zbM (sn l3)
  rw [t1,zqS c x] at this
  generalize e/(1+K)=d at *
  generalize abs (c-y)=g at *
  generalize abs (x-c)=k at *
  exact zU [g,d,k,x,y] (pn (pn (sn this) (sn l1)) (sn l2))
 have w1:=zdT (le_trans u1 (zvy hK v1))
 have w2:=zdT (le_trans u2 (zvy hK v2))
 have hd:=le_of_lt (zBv he hK1)
 generalize e/(1+K)=d at *
 generalize f c=fc at *
 generalize f x=fx at *
 generalize f y=fy at *
 rw [<- hee]
 exact zeT (zU [fc,fy,d,K] (pn (pn (sn w2.1) (sn l4.2)) hd)) (zU [fc,fx,d,K] (pn (pn (sn w1.2) (sn l4.1)) hd))
theorem zyl {x:Re} (h:0<=x):∃r,0<=r/\r*r=x:=by
 have hb:0<=1+x:=pn (qn 1) h
 obtain ⟨c,c1,c2,c3⟩:=zuB (f:=fun r=>r*r-x) (a:=0) (b:=1+x) (K:=2*(1+x)) hb (mn (qn 2) hb) (by
  intro u v u1 u2 v1 v2
  show abs (u*u-x-(v*v-x))<=_
  rw [show u*u-x-(v*v-x)=(u+v)*(u-v) from ring [u,v,x],zl4,zbM (pn u1 v1)]
  have:=zeS (u-v)
  generalize abs (u-v)=w at *
  exact zU [u,v,w,x] (mn (pn (sn u2) (sn v2)) this)) (zU [x] h) (zU [x] (pn (pn (qn 1) h) (mn h h)))
 exact ⟨c,c1,zb2 c3⟩
open Classical in
def sqrt (x:Re):Re:=if h:0<=x then choose (zyl h) else 0
theorem zrb (x:Re):0<=sqrt x:=by
 by_cases h:0<=x
 ·rw [sqrt,dif_pos h];exact (Classical.choose_spec (zyl h)).1
 ·rw [sqrt,dif_neg h];exact le_refl _
theorem zo7 {x:Re} (h:0<=x):sqrt x*sqrt x=x:=by
 rw [sqrt,dif_pos h];exact (Classical.choose_spec (zyl h)).2
theorem zob {x y:Re} (hy:0<=y) (h:x*x<=y*y):x<=y:=by
 rcases lt_or_le y x with k|k
 ·have hx:=lt_of_le_of_lt hy k
  exact absurd (zfU [x,y] (mp (sp k) (ppn hx hy))) h
 ·exact k
theorem zmJ {x y:Re} (hy:0<=y) (h:x*x<y*y):x<y:=by
 rcases lt_or_le x y with k|k
 ·exact k
 ·exact absurd h (zxk hy k hy k)
theorem zIw {x y:Re} (hx:0<=x) (hy:0<=y) (h:x*x=y*y):x=y:=le_antisymm (zob hy (le_of_eq h)) (zob hx (le_of_eq h.symm))
end Go.Proofs.YtkenfaengphiiaaGreatDoor.An
namespace Go.Proofs.YtkenfaengphiiaaGreatDoor.An
theorem zos (n:Nat):rat ((n+1:Nat):Rat)=rat (n:Rat)+1:=by
 rw [show ((n+1:Nat):Rat)=(n:Rat)+1 from Rat.natCast_add n 1,zk4];rfl
theorem zIP (n:Nat):0<=rat (n:Rat):=zwH Rat.natCast_nonneg
theorem zCF {n:Nat} (h:0<n):0<rat (n:Rat):=zwG (Rat.natCast_pos.2 h)
theorem zz8 {m n:Nat} (h:m<=n):rat (m:Rat)<=rat (n:Rat):=zkP.2 (Rat.natCast_le_natCast.2 h)
theorem zK7 {f:Re->Re} {a b K:Re} (h:a<=b) (hf:∀x y,a<=x->x<=y->y<=b->f x-f y<=K*((y-x)*(y-x))):f a<=f b:=by
 have key:∀n:Nat,0<n->(f a-f b)*rat n<=K*((b-a)*(b-a)):=by
  intro n hn
  have hp:=zCF hn
  have hd:(b-a)/rat (n:Rat)*rat n=b-a:=div_mul (ne_of_gt hp)
  have h0:0<=(b-a)/rat (n:Rat):=zHV (sn h) hp
  generalize (b-a)/rat (n:Rat)=d at *
  have st:∀i:Nat,i<=n->(f a-f (a+rat i*d))<=rat i*(K*(d*d)):=by
   intro i
   induction i with
   | zero=>
    intro _
    have e:a+rat ((0:Nat):Rat)*d=a:=by show a+rat 0*d=a;exact ring [a,d]
    rw [e]
    show f a-f a<=rat 0*(K*(d*d))
    generalize f a=u
    exact le_of_eq (ring [u,K,d])
   | succ i ih=>
    intro hi
    have i1:=ih (by omega)
    have hi2:=zz8 hi
    rw [zos] at *
    have i0:=zIP i
    generalize rat (i:Rat)=r at *
    generalize rat (n:Rat)=t at *
    have:=hf (a+r*d) (a+(r+1)*d) (zU [a,r,d] (mn i0 h0)) (zU [a,r,d] h0) (by
     have e:b=a+t*d:=by rw [show a+t*d=a+d*t from ring [a,t,d],hd];exact ring [a,b]
     rw [e];exact zU [a,r,d,t] (mn (sn hi2) h0))
    generalize f (a+r*d)=u at *
    generalize f (a+(r+1)*d)=v at *
    generalize f a=w at *
    rw [show a+(r+1)*d-(a+r*d)=d from ring [a,r,d]] at this
    exact zU [u,v,w,r,K,d] (pn (sn this) (sn i1))
  have l:=st n (Nat.le_refl n)
  generalize rat (n:Rat)=t at *
  have e:a+t*d=b:=by rw [show a+t*d=a+d*t from ring [a,t,d],hd];exact ring [a,b]
  rw [e] at l
  rw [<- hd]
  generalize f a-f b=w at *
  exact zU [w,t,K,d] (mn (sn l) (le_of_lt hp))
 have:=zC3 key
 exact zp4.2 (zU [f a,f b] (sn this))
def Der (a b:Re) (f g:Re->Re):Prop:=∃K,0<=K/\∀x y,a<=x->x<=b->a<=y->y<=b->abs (f y-f x-g x*(y-x))<=K*((y-x)*(y-x))
theorem Der.sub {a b c d:Re} {f g:Re->Re} (h:Der a b f g) (h1:a<=c) (h2:d<=b):Der c d f g:=by
 obtain ⟨K,k0,hK⟩:=h
 exact ⟨K,k0,fun x y x1 x2 y1 y2=>hK x y (le_trans h1 x1) (le_trans x2 h2) (le_trans h1 y1) (le_trans y2 h2)⟩
theorem Der.congr {a b:Re} {f g f' g':Re->Re} (h:Der a b f g) (h1:∀x,a<=x->x<=b->f x=f' x) (h2:∀x,a<=x->x<=b->g x=g' x):Der a b f' g':=by
 obtain ⟨K,k0,hK⟩:=h
 exact ⟨K,k0,fun x y x1 x2 y1 y2=>by rw [<- h1 x x1 x2,<- h1 y y1 y2,<- h2 x x1 x2];exact hK x y x1 x2 y1 y2⟩
theorem Der.mono {a b:Re} {f g:Re->Re} (h:Der a b f g) (hg:∀x,a<=x->x<=b->0<=g x) (hab:a<=b):f a<=f b:=by
 obtain ⟨K,k0,hK⟩:=h
 refine zK7 (K:=K) hab fun x y x1 xy y2=>?_
 have:=(zdT (hK x y x1 (le_trans xy y2) (le_trans x1 xy) y2)).1
 have p:=mn (hg x x1 (le_trans xy y2)) (sn xy)
 generalize f x=u at *
 generalize f y=v at *
 generalize g x=w at *
 exact zU [u,v,w,x,y,K] (pn (sn this) p)
theorem Der.neg {a b:Re} {f g:Re->Re} (h:Der a b f g):Der a b (fun x=> - f x) (fun x=> - g x):=by
 obtain ⟨K,k0,hK⟩:=h
 refine ⟨K,k0,fun x y x1 x2 y1 y2=>?_⟩
 have:=hK x y x1 x2 y1 y2
 rw [<- abs_neg] at this
 show abs (-f y - -f x - -g x*(y-x))<=_
 generalize f x=u at *
 generalize f y=v at *
 generalize g x=w at *
 rwa [show -(v-u-w*(y-x))= -v - -u - -w*(y-x) from ring [u,v,w,x,y]] at this
theorem Der.add {a b:Re} {f g f' g':Re->Re} (h:Der a b f g) (k:Der a b f' g'):Der a b (fun x=>f x+f' x) (fun x=>g x+g' x):=by
 obtain ⟨K,k0,hK⟩:=h
 obtain ⟨L,l0,hL⟩:=k
 refine ⟨K+L,pn k0 l0,fun x y x1 x2 y1 y2=>?_⟩
 have h1:=le_trans (zji _ _) (zgw (hK x y x1 x2 y1 y2) (hL x y x1 x2 y1 y2))
 show abs (f y+f' y-(f x+f' x)-(g x+g' x)*(y-x))<=_
 generalize f x=u at *
 generalize f y=v at *
 generalize g x=w at *
 generalize f' x=u' at *
 generalize f' y=v' at *
 generalize g' x=w' at *
 rwa [show v-u-w*(y-x)+(v'-u'-w'*(y-x))=v+v'-(u+u')-(w+w')*(y-x) from ring [u,v,w,u',v',w',x,y],
  show K*((y-x)*(y-x))+L*((y-x)*(y-x))=(K+L)*((y-x)*(y-x)) from ring [x,y,K,L]] at h1
theorem Der.const (a b c:Re):Der a b (fun _=>c) (fun _=>0):=⟨0,le_refl _,fun x y _ _ _ _=>by
 rw [show c-c-0*(y-x)=0 from ring [c,x,y],abs_zero];exact zU [x,y] (le_refl 0)⟩
theorem Der.id (a b:Re):Der a b (fun x=>x) (fun _=>1):=⟨0,le_refl _,fun x y _ _ _ _=>by
 rw [show y-x-1*(y-x)=0 from ring [x,y],abs_zero];exact zU [x,y] (le_refl 0)⟩
theorem Der.smul {a b:Re} {f g:Re->Re} (c:Re) (h:Der a b f g):Der a b (fun x=>c*f x) (fun x=>c*g x):=by
 obtain ⟨K,k0,hK⟩:=h
 refine ⟨abs c*K,mn (zeS c) k0,fun x y x1 x2 y1 y2=>?_⟩
 have:=zvy (zeS c) (hK x y x1 x2 y1 y2)
 show abs (c*f y-c*f x-c*g x*(y-x))<=_
 rw [<- zl4,<- mul_assoc] at this
 generalize f x=u at *
 generalize f y=v at *
 generalize g x=w at *
 rwa [show c*(v-u-w*(y-x))=c*v-c*u-c*w*(y-x) from ring [c,u,v,w,x,y]] at this
theorem Der.bdd {a b:Re} {f g:Re->Re} (h:Der a b f g) (hab:a<=b):∃L,0<=L/\(∀x,a<=x->x<=b->abs (g x)<=L):=by
 obtain ⟨K,k0,hK⟩:=h
 refine ⟨abs (g a)+2*K*(b-a),pn (zeS _) (mn (mn (qn 2) k0) (sn hab)),fun x x1 x2=>?_⟩
 rcases le_iff.1 x1 with k|k
 ·have h1:=hK a x (le_refl a) hab x1 x2
  have h2:=hK x a x1 x2 (le_refl a) hab
  have h3:=le_trans (zji _ _) (zgw h1 h2)
  have hp:=sp k
  have e:abs (g x-g a)<=2*K*(x-a):=by
   refine zdM hp ?_
   have e1:abs (g x-g a)*(x-a)=abs ((g x-g a)*(x-a)):=by rw [zl4,zbM (le_of_lt hp)]
   rw [e1]
   generalize f x=u at *
   generalize f a=v at *
   generalize g x=w at *
   generalize g a=t at *
   rwa [show u-v-t*(x-a)+(v-u-w*(a-x))=(w-t)*(x-a) from ring [u,v,w,t,x,a],
    show K*((x-a)*(x-a))+K*((a-x)*(a-x))=2*K*(x-a)*(x-a) from ring [x,a,K]] at h3
  have t:=zji (g a) (g x-g a)
  rw [show g a+(g x-g a)=g x from by generalize g x=u;generalize g a=v;exact ring [u,v]] at t
  generalize abs (g x)=p at *
  generalize abs (g a)=q at *
  generalize abs (g x-g a)=r at *
  exact zU [p,q,r,a,b,x,K] (pn (pn (sn t) (sn e)) (mn (mn (qn 2) k0) (sn x2)))
 ·subst k
  generalize abs (g a)=q at *
  exact zU [q,K,a,b] (mn (mn (qn 2) k0) (sn hab))
theorem Der.lip {a b:Re} {f g:Re->Re} (h:Der a b f g) (hab:a<=b):∃L,0<=L/\∀x y,a<=x->x<=b->a<=y->y<=b->abs (f x-f y)<=L*abs (x-y):=by
 obtain ⟨M,m0,hM⟩:=h.bdd hab
 obtain ⟨K,k0,hK⟩:=h
 refine ⟨M+K*(b-a),pn m0 (mn k0 (sn hab)),fun x y x1 x2 y1 y2=>?_⟩
 have h1:=hK y x y1 y2 x1 x2
 have h2:=zji (f x-f y-g y*(x-y)) (g y*(x-y))
 rw [zl4] at h2
 have h3:=hM y y1 y2
 have h4:abs (x-y)<=b-a:=zeT (zU [x,y,a,b] (pn (sn x1) (sn y2))) (zU [x,y,a,b] (pn (sn x2) (sn y1)))
 rw [<- zsg] at h1
 rw [show f x-f y-g y*(x-y)+g y*(x-y)=f x-f y from by generalize f x=u;generalize f y=v;generalize g y=w;exact ring [u,v,w,x,y]] at h2
 have h5:=zeS (x-y)
 generalize abs (f x-f y-g y*(x-y))=p at *
 generalize abs (f x-f y)=q at *
 generalize abs (x-y)=d at *
 generalize abs (g y)=w at *
 exact zU [p,q,d,w,M,K,a,b] (pn (pn (sn h2) (sn h1)) (pn (mn (sn h3) h5) (mn (mn k0 h5) (sn h4))))
theorem Der.fbdd {a b:Re} {f g:Re->Re} (h:Der a b f g) (hab:a<=b):∃L,0<=L/\(∀x,a<=x->x<=b->abs (f x)<=L):=by
 obtain ⟨M,m0,hM⟩:=h.lip hab
 refine ⟨abs (f a)+M*(b-a),pn (zeS _) (mn m0 (sn hab)),fun x x1 x2=>?_⟩
 have h1:=hM x a x1 x2 (le_refl a) hab
 have h2:=zji (f a) (f x-f a)
 rw [show f a+(f x-f a)=f x from by generalize f x=u;generalize f a=v;exact ring [u,v]] at h2
 rw [zbM (sn x1)] at h1
 generalize abs (f x)=p at *
 generalize abs (f a)=q at *
 generalize abs (f x-f a)=r at *
 exact zU [p,q,r,M,a,b,x] (pn (pn (sn h2) (sn h1)) (mn m0 (sn x2)))
theorem Der.mul {a b:Re} {f g f' g':Re->Re} (h:Der a b f g) (k:Der a b f' g') (hab:a<=b):Der a b (fun x=>f x*f' x) (fun x=>g x*f' x+f x*g' x):=by
 obtain ⟨A,a0,hA⟩:=h.fbdd hab
 obtain ⟨B,b0,hB⟩:=k.fbdd hab
 obtain ⟨C,c0,hC⟩:=h.lip hab
 obtain ⟨D,d0,hD⟩:=k.lip hab
 obtain ⟨K,k0,hK⟩:=h
 obtain ⟨L,l0,hL⟩:=k
 refine ⟨B*K+A*L+C*D,pn (pn (mn b0 k0) (mn a0 l0)) (mn c0 d0),fun x y x1 x2 y1 y2=>?_⟩
 have p1:=zeD (hB x x1 x2) (hK x y x1 x2 y1 y2)
 have p2:=zeD (hA x x1 x2) (hL x y x1 x2 y1 y2)
 have p3:=zeD (hC y x y1 y2 x1 x2) (hD y x y1 y2 x1 x2)
 have q:=le_trans (zji _ _) (zgw (le_trans (zji _ _) (zgw p1 p2)) p3)
 show abs (f y*f' y-f x*f' x-(g x*f' x+f x*g' x)*(y-x))<=_
 have e3:=zsg (y-x)
 generalize abs (y-x)=d at *
 generalize f x=u at *
 generalize f y=v at *
 generalize g x=w at *
 generalize f' x=u' at *
 generalize f' y=v' at *
 generalize g' x=w' at *
 rw [show u'*(v-u-w*(y-x))+u*(v'-u'-w'*(y-x))+(v-u)*(v'-u')=v*v'-u*u'-(w*u'+u*w')*(y-x) from ring [u,v,w,u',v',w',x,y]] at q
 refine le_trans q (le_of_eq ?_)
 rw [<- e3]
 exact ring [A,B,C,D,K,L,d]
theorem Der.zero {a b:Re} {f:Re->Re} (h:Der a b f (fun _=>0)) (hab:a<=b):f b=f a:=by
 have h1:=h.mono (fun _ _ _=>le_refl 0) hab
 have h2:=h.neg.mono (fun _ _ _=>zU [] (le_refl 0)) hab
 exact le_antisymm (zU [f a,f b] (sn h2)) h1
theorem Der.le {a b:Re} {f g f' g':Re->Re} (h:Der a b f g) (k:Der a b f' g') (hab:a<=b) (hg:∀x,a<=x->x<=b->g x<=g' x):f b-f a<=f' b-f' a:=by
 have:=(k.add h.neg).mono (fun x x1 x2=>zU [g x,g' x] (sn (hg x x1 x2))) hab
 exact zU [f a,f b,f' a,f' b] (sn this)
end Go.Proofs.YtkenfaengphiiaaGreatDoor.An
namespace Go.Proofs.YtkenfaengphiiaaGreatDoor.An
def mon (x:Re):Nat->Re
 | 0=>1
 | n+1=>mon x n*x*rat (1/((n+1:Nat):Rat))
theorem zvD (n:Nat):rat ((n+1:Nat):Rat)*rat (1/((n+1:Nat):Rat))=1:=by
 have h:(0:Rat)<((n+1:Nat):Rat):=Rat.natCast_pos.2 (Nat.succ_pos n)
 rw [<- zk3,Rat.mul_comm,Rat.div_mul_cancel (by grind)];rfl
theorem zou (x:Re) (n:Nat):rat ((n+1:Nat):Rat)*mon x (n+1)=mon x n*x:=by
 have:=zvD n
 simp only [mon]
 generalize rat ((n+1:Nat):Rat)=a at *
 generalize rat (1/((n+1:Nat):Rat))=b at *
 generalize mon x n=m
 exact zj9 [a,b,m,x] (congrArg (fun t=>m*x*t) this:m*x*(a*b)=m*x*1)
theorem zxt (n:Nat):0<rat (1/((n+1:Nat):Rat)):=by
 have h:(0:Rat)<((n+1:Nat):Rat):=Rat.natCast_pos.2 (Nat.succ_pos n)
 exact zwG (div_pos (by decide) h)
theorem zuf {M:Re} (h:0<=M) (n:Nat):0<=mon M n:=by
 induction n with
 | zero=>exact qn 1
 | succ n ih=>exact mn (mn ih h) (le_of_lt (zxt n))
theorem zCM {x M:Re} (h:abs x<=M) (n:Nat):abs (mon x n)<=mon M n:=by
 induction n with
 | zero=>exact le_of_eq (zbM (qn 1))
 | succ n ih=>
  have:=zxt n
  exact zeD (zeD ih h) (le_of_eq (zbM (le_of_lt this)))
theorem zAc {M:Re} (h:0<=M) {k n:Nat} (hk:2*M<=rat ((k+1:Nat):Rat)) (hn:k<=n):mon M (n+1)<=mon M n*rat (1/2):=by
 have h1:=zou M n
 have h2:rat ((k+1:Nat):Rat)<=rat ((n+1:Nat):Rat):=zz8 (by omega)
 have h3:=zuf h n
 have h4:0<rat ((n+1:Nat):Rat):=zCF (Nat.succ_pos n)
 refine zdM h4 ?_
 rw [mul_comm,h1]
 generalize rat ((n+1:Nat):Rat)=t at *
 generalize rat ((k+1:Nat):Rat)=s at *
 generalize mon M n=m at *
 exact zU [m,M,s,t] (mn (mn h3 (pn (sn hk) (sn h2))) (qn (1/2)))
theorem zCL {M:Re} (h:0<=M) {k:Nat} (hk:2*M<=rat ((k+1:Nat):Rat)) {e:Re} (he:0<e):∃N,k<=N/\mon M N<=e:=by
 have hp:∀j,mon M (k+j)*rat ((2:Rat)^j)<=mon M k:=by
  intro j
  induction j with
  | zero=>exact le_of_eq (mul_one _)
  | succ j ih=>
   have:=zAc h hk (show k<=k+j by omega)
   rw [Rat.pow_succ,zk3]
   have hp:0<rat ((2:Rat)^j):=zwG (Rat.pow_pos (by decide))
   show mon M (k+j+1)*_<=_
   generalize rat ((2:Rat)^j)=t at *
   generalize mon M (k+j)=u at *
   generalize mon M (k+j+1)=v at *
   generalize mon M k=w at *
   exact zU [t,u,v,w] (pn (sn ih) (mn (mn (sn this) (le_of_lt hp)) (qn 2)))
 obtain ⟨j,hj⟩:=arch (mon M k/e)
 rw [div_lt he] at hj
 refine ⟨k+j,by omega,?_⟩
 have h2:rat (j:Rat)<=rat ((2:Rat)^j):=zkP.2 (zzG j)
 have h3:=hp j
 have h4:0<rat ((2:Rat)^j):=zwG (Rat.pow_pos (by decide))
 refine zdM h4 ?_
 generalize rat ((2:Rat)^j)=t at *
 generalize rat (j:Rat)=r at *
 generalize mon M (k+j)=u at *
 generalize mon M k=w at *
 exact zU [t,u,w,r,e] (pn (pn (sn h3) (le_of_lt (sp hj))) (mn (sn h2) (le_of_lt he)))
def Co (c:Nat->Rat):Prop:=∀n,abs (rat (c n))<=1
def psum (c:Nat->Rat) (x:Re):Nat->Re
 | 0=>0
 | n+1=>psum c x n+rat (c n)*mon x n
theorem zrD (c:Nat->Rat) (x:Re) (n:Nat):psum c x (n+1)=psum c x n+rat (c n)*mon x n:=rfl
theorem zCo {c:Nat->Rat} (hc:Co c) {x M:Re} (hx:abs x<=M) {i:Nat} (hi:2*M<=rat ((i+1:Nat):Rat)) (j:Nat):
  abs (psum c x (i+j)-psum c x i)+2*mon M (i+j)<=2*mon M i:=by
 have hM:=le_trans (zeS x) hx
 induction j with
 | zero=>
  show abs (psum c x i-psum c x i)+2*mon M i<=_
  rw [show psum c x i-psum c x i=0 from by generalize psum c x i=u;exact ring [u],abs_zero,zero_add];exact le_refl _
 | succ j ih=>
  have h1:=zAc hM hi (show i<=i+j by omega)
  have h2:=zeD (hc (i+j)) (zCM hx (i+j))
  have h3:=zji (psum c x (i+j)-psum c x i) (rat (c (i+j))*mon x (i+j))
  show abs (psum c x (i+j)+rat (c (i+j))*mon x (i+j)-psum c x i)+2*mon M (i+j+1)<=_
  generalize rat (c (i+j))*mon x (i+j)=t at *
  generalize psum c x (i+j)=u at *
  generalize psum c x i=v at *
  rw [show u-v+t=u+t-v from ring [u,v,t]] at h3
  generalize abs (u+t-v)=A at *
  generalize abs (u-v)=B at *
  generalize abs t=C at *
  generalize mon M (i+j+1)=m2 at *
  generalize mon M (i+j)=m1 at *
  generalize mon M i=m0 at *
  exact zU [A,B,C,m0,m1,m2] (pn (pn (pn (sn h3) (sn h2)) (sn ih)) (mn (qn 2) (sn h1)))
theorem zna {c:Nat->Rat} (hc:Co c) {x M:Re} (hx:abs x<=M) {i n:Nat} (hi:2*M<=rat ((i+1:Nat):Rat)) (hn:i<=n):
  abs (psum c x n-psum c x i)<=2*mon M i:=by
 obtain ⟨j,rfl⟩:=Nat.exists_eq_add_of_le hn
 have h1:=zCo hc hx hi j
 have h2:=zuf (le_trans (zeS x) hx) (i+j)
 generalize abs (psum c x (i+j)-psum c x i)=A at *
 generalize mon M (i+j)=m1 at *
 generalize mon M i=m0 at *
 exact zU [A,m0,m1] (pn (sn h1) (mn (qn 2) h2))
theorem big (M:Re):∃k:Nat,2*M<=rat ((k+1:Nat):Rat):=by
 obtain ⟨k,hk⟩:=arch (2*M)
 exact ⟨k,le_trans (le_of_lt hk) (zz8 (by omega))⟩
theorem zFZ {c:Nat->Rat} (hc:Co c) (x:Re):∃L,Lim (psum c x) L:=by
 obtain ⟨k,hk⟩:=big (abs x)
 refine complete fun e he=>?_
 obtain ⟨N,hN,hm⟩:=zCL (zeS x) hk (mp he (qp (1/4)))
 have hN2:2*abs x<=rat ((N+1:Nat):Rat):=le_trans hk (zz8 (by omega))
 refine ⟨N,fun m n hm' hn'=>?_⟩
 have a:=(zdT (zna hc (le_refl (abs x)) hN2 hm')).2
 have b:=(zdT (zna hc (le_refl (abs x)) hN2 hn')).1
 generalize psum c x m=u at *
 generalize psum c x n=v at *
 generalize psum c x N=w at *
 generalize mon (abs x) N=t at *
 exact zU [u,v,w,t,e] (pn (pn (sn a) (sn b)) (mn (qn 4) (sn hm)))
open Classical in
def ser (c:Nat->Rat) (x:Re):Re:=if h:∃L,Lim (psum c x) L then choose h else 0
theorem znM {c:Nat->Rat} (hc:Co c) (x:Re):Lim (psum c x) (ser c x):=by
 rw [ser,dif_pos (zFZ hc x)];exact Classical.choose_spec (zFZ hc x)
theorem zoc {c:Nat->Rat} (hc:Co c) {x M:Re} (hx:abs x<=M) {i:Nat} (hi:2*M<=rat ((i+1:Nat):Rat)):abs (ser c x-psum c x i)<=2*mon M i:=
 ((znM hc x).sub (Lim.const (psum c x i))).absle ⟨i,fun n hn=>zna hc hx hi hn⟩
theorem zu5 {c:Nat->Rat} (hc:Co c):ser c 0=rat (c 0):=by
 refine (znM hc 0).unique fun e he=>⟨1,fun n hn=>?_⟩
 have:∀n,psum c 0 (n+1)=rat (c 0):=by
  intro n
  induction n with
  | zero=>show 0+rat (c 0)*1=_;generalize rat (c 0)=r;exact ring [r]
  | succ n ih=>
   rw [zrD,ih]
   show rat (c 0)+rat (c (n+1))*(mon 0 n*0*_)=_
   rw [mul_zero,zero_mul,mul_zero,add_zero]
 obtain ⟨m,rfl⟩:∃m,n=m+1:=⟨n-1,by omega⟩
 rw [this,show rat (c 0)-rat (c 0)=0 from by generalize rat (c 0)=r;exact ring [r],abs_zero]
 exact le_of_lt he
def sh (c:Nat->Rat):Nat->Rat:=fun n=>c (n+1)
theorem Co.sh {c:Nat->Rat} (h:Co c):Co (sh c):=fun n=>h (n+1)
theorem zGQ {c d:Nat->Rat} (hc:Co c) (hd:Co d) (h:∀n,d n= - c n) (x:Re):ser d x= - ser c x:=by
 have:∀n,psum d x n= - psum c x n:=by
  intro n
  induction n with
  | zero=>show (0:Re)= -0;exact ring []
  | succ n ih=>
   rw [zrD,zrD,ih,h n,zyv]
   generalize psum c x n=u;generalize rat (c n)=r;generalize mon x n=m
   exact ring [u,r,m]
 exact (znM hd x).unique ((znM hc x).neg.congr fun n=>(this n).symm)
theorem zK8 {x y M:Re} (hx:abs x<=M) (hy:abs y<=M) (n:Nat):
  abs (mon y (n+2)-mon x (n+2)-mon x (n+1)*(y-x))<=mon M n*((y-x)*(y-x)):=by
 have hM:=le_trans (zeS x) hx
 induction n with
 | zero=>
  have e:mon y 2-mon x 2-mon x 1*(y-x)=(y-x)*(y-x)*rat (1/2):=by
   have a:∀z,mon z 2=z*z*rat (1/2):=fun z=>by
    show 1*z*rat (1/((1:Nat):Rat))*z*rat (1/((2:Nat):Rat))=_
    exact ring [z]
   have b:mon x 1=x:=by show 1*x*rat (1/((1:Nat):Rat))=x;exact ring [x]
   rw [a,a,b];exact ring [x,y]
  rw [e,zbM (mn (sqn _) (qn _))]
  show _<=1*_
  have:=sqn (y-x)
  generalize (y-x)*(y-x)=q at *
  exact zU [q] (mn this (qn (1/2)))
 | succ n ih=>
  have h1:=zou y (n+2)
  have h2:=zou x (n+2)
  have h3:=zou x (n+1)
  have h4:=zou M n
  have e3:rat ((n+1+1:Nat):Rat)=rat ((n+1:Nat):Rat)+1:=zos (n+1)
  have e2:rat ((n+2+1:Nat):Rat)=rat ((n+1:Nat):Rat)+2:=by rw [show (n+2+1:Nat)=(n+1+1)+1 from rfl,zos,zos (n+1)];generalize rat ((n+1:Nat):Rat)=t;exact ring [t]
  have hk:0<rat ((n+1:Nat):Rat):=zCF (Nat.succ_pos n)
  have hd:=sqn (y-x)
  have hm1:=zCM hx (n+1)
  have hm0:=zuf hM n
  have hmm:=zuf hM (n+1)
  have b1:=zeD hy ih
  have b2:=zeD hm1 (le_of_eq (zbM hd))
  have b3:=le_trans (zji _ _) (zgw b1 b2)
  rw [e2] at h1 h2
  rw [e3] at h3
  show abs (mon y (n+2+1)-mon x (n+2+1)-mon x (n+1+1)*(y-x))<=mon M (n+1)*_
  generalize mon y (n+2+1)=y3 at *
  generalize mon x (n+2+1)=x3 at *
  generalize mon y (n+2)=y2 at *
  generalize mon x (n+2)=x2 at *
  generalize mon x (n+1)=x1 at *
  generalize mon M (n+1)=m1 at *
  generalize mon M n=m0 at *
  generalize rat ((n+1:Nat):Rat)=k at *
  have hk2:0<k+2:=pp hk (qp 2)
  refine zdM hk2 ?_
  have e4:abs (y3-x3-x2*(y-x))*(k+2)=abs (y*(y2-x2-x1*(y-x))+x1*((y-x)*(y-x))):=by
   rw [show abs (y3-x3-x2*(y-x))*(k+2)=abs (y3-x3-x2*(y-x))*abs (k+2) from by rw [zbM (le_of_lt hk2)],<- zl4]
   congr 1
   refine zb2 ?_
   rw [show (y3-x3-x2*(y-x))*(k+2)-(y*(y2-x2-x1*(y-x))+x1*((y-x)*(y-x)))=((k+2)*y3-y2*y)-((k+2)*x3-x2*x)-(y-x)*((k+1)*x2-x1*x) from ring [x,y,x1,x2,x3,y2,y3,k],h1,h2,h3]
   exact ring [x,y,x1,x2,y2]
  rw [e4]
  refine le_trans b3 ?_
  generalize (y-x)*(y-x)=q at *
  rw [show M*(m0*q)=(m0*M)*q from ring [M,m0,q],<- h4]
  exact zU [k,m1,q] (mn hmm hd)
def one:Nat->Rat:=fun _=>1
theorem zxc:Co one:=fun n=>le_of_eq (zbM (qn 1))
theorem zEL {M:Re} (h:0<=M):∃B,0<=B/\∀N,psum one M N<=B:=by
 obtain ⟨k,hk⟩:=big M
 have up:∀N j,psum one M N<=psum one M (N+j):=by
  intro N j
  induction j with
  | zero=>exact le_refl _
  | succ j ih=>
   refine le_trans ih ?_
   have:=zuf h (N+j)
   show _<=psum one M (N+j)+1*mon M (N+j)
   generalize mon M (N+j)=u at *;generalize psum one M (N+j)=v at *
   exact zU [u,v] this
 refine ⟨abs (psum one M k)+2*mon M k,pn (zeS _) (mn (qn 2) (zuf h k)),fun N=>?_⟩
 have h1:=up N k
 have h2:=(zdT (zna zxc (le_of_eq (zbM h)) hk (show k<=N+k by omega))).2
 have h3:=zoA (psum one M k)
 generalize psum one M N=u at *;generalize psum one M (N+k)=v at *;generalize abs (psum one M k)=w at *;generalize psum one M k=t at *;generalize mon M k=m at *
 exact zU [u,v,w,t,m] (pn (pn (sn h1) (sn h2)) (sn h3))
theorem zII {c:Nat->Rat} (hc:Co c) {x y M:Re} (hx:abs x<=M) (hy:abs y<=M) (N:Nat):
  abs (psum c y (N+2)-psum c x (N+2)-psum (sh c) x (N+1)*(y-x))<=psum one M N*((y-x)*(y-x)):=by
 induction N with
 | zero=>
  have a:∀z,psum c z 2=rat (c 0)+rat (c 1)*z:=fun z=>by
   show 0+rat (c 0)*1+rat (c 1)*(1*z*rat (1/((1:Nat):Rat)))=_
   generalize rat (c 0)=u;generalize rat (c 1)=v;exact ring [u,v,z]
  have b:psum (sh c) x 1=rat (c 1):=by
   show 0+rat (c 1)*1=_
   generalize rat (c 1)=v;exact ring [v]
  rw [a,a,b]
  show _<=0*_
  generalize rat (c 0)=u;generalize rat (c 1)=v
  rw [show u+v*y-(u+v*x)-v*(y-x)=0 from ring [u,v,x,y],abs_zero]
  exact zU [x,y] (le_refl 0)
 | succ N ih=>
  have h1:=zK8 hx hy N
  have h2:=zeD (hc (N+2)) h1
  have h3:=le_trans (zji _ _) (zgw ih h2)
  show abs (psum c y (N+2)+rat (c (N+2))*mon y (N+2)-(psum c x (N+2)+rat (c (N+2))*mon x (N+2))-(psum (sh c) x (N+1)+rat (c (N+2))*mon x (N+1))*(y-x))<=(psum one M N+1*mon M N)*_
  generalize rat (c (N+2))=r at *;generalize mon y (N+2)=y2 at *;generalize mon x (N+2)=x2 at *;generalize mon x (N+1)=x1 at *
  generalize psum c y (N+2)=u at *;generalize psum c x (N+2)=v at *;generalize psum (sh c) x (N+1)=w at *
  rw [show u-v-w*(y-x)+r*(y2-x2-x1*(y-x))=u+r*y2-(v+r*x2)-(w+r*x1)*(y-x) from ring [u,v,w,r,y2,x2,x1,x,y]] at h3
  refine le_trans h3 (le_of_eq ?_)
  generalize psum one M N=p;generalize mon M N=q
  exact ring [p,q,x,y]
theorem zGR {c:Nat->Rat} (hc:Co c) (a b:Re):Der a b (ser c) (ser (sh c)):=by
 let M:=abs a+abs b
 have hM:0<=M:=pn (zeS a) (zeS b)
 obtain ⟨B,b0,hB⟩:=zEL hM
 refine ⟨B,b0,fun x y x1 x2 y1 y2=>?_⟩
 have inM:∀z,a<=z->z<=b->abs z<=M:=fun z z1 z2=>by
  have h1:=zoA b;have h2:=zih a;have h3:=zeS a;have h4:=zeS b
  show abs z<=abs a+abs b
  generalize abs a=p at *;generalize abs b=q at *
  exact zeT (zU [p,q,z,a] (pn (pn (sn h2) (sn z1)) h4)) (zU [p,q,z,b] (pn (pn (sn h1) (sn z2)) h3))
 have hx:=inM x x1 x2
 have hy:=inM y y1 y2
 have l:=(((znM hc y).tail 2).sub ((znM hc x).tail 2)).sub (((znM hc.sh x).tail 1).smul (y-x))
 rw [show ser c y-ser c x-(y-x)*ser (sh c) x=ser c y-ser c x-ser (sh c) x*(y-x) from by generalize ser c y=u;generalize ser c x=v;generalize ser (sh c) x=w;exact ring [u,v,w,x,y]] at l
 refine l.absle ⟨0,fun n _=>?_⟩
 have h1:=zII hc hx hy n
 have h2:=hB n
 have h3:=sqn (y-x)
 rw [show psum (sh c) x (n+1)*(y-x)=(y-x)*psum (sh c) x (n+1) from mul_comm _ _] at h1
 refine le_trans h1 ?_
 generalize psum one M n=p at *;generalize (y-x)*(y-x)=q at *
 exact zU [p,q,B] (mn (sn h2) h3)
end Go.Proofs.YtkenfaengphiiaaGreatDoor.An
namespace Go.Proofs.YtkenfaengphiiaaGreatDoor.An
def sc (n:Nat):Rat:=if n%4=1 then 1 else if n%4=3 then -1 else 0
def cc (n:Nat):Rat:=if n%4=0 then 1 else if n%4=2 then -1 else 0
theorem zEd:abs (rat 1)<=1:=le_of_eq (zbM (qn 1))
theorem zAT:abs (rat (-1))<=1:=zeT (zj1 (-1) (-1)) (zj1 (-1) 1)
theorem zAS:abs (rat 0)<=1:=zeT (zj1 (-1) 0) (zj1 0 1)
theorem zEE:Co sc:=fun n=>by
 unfold sc;split
 ·exact zEd
 ·split
  ·exact zAT
  ·exact zAS
theorem zDR:Co cc:=fun n=>by
 unfold cc;split
 ·exact zEd
 ·split
  ·exact zAT
  ·exact zAS
theorem zKU:sh sc=cc:=funext fun n=>by
 simp only [sh,sc,cc]
 have h:n%4=0\/n%4=1\/n%4=2\/n%4=3:=by omega
 rcases h with h|h|h|h
 ·rw [if_pos (by omega),if_pos h]
 ·rw [if_neg (by omega),if_neg (by omega),if_neg (by omega),if_neg (by omega)]
 ·rw [if_neg (by omega),if_pos (by omega),if_neg (by omega),if_pos h]
 ·rw [if_neg (by omega),if_neg (by omega),if_neg (by omega),if_neg (by omega)]
theorem zKV (n:Nat):sh cc n= - sc n:=by
 simp only [sh,sc,cc]
 have h:n%4=0\/n%4=1\/n%4=2\/n%4=3:=by omega
 rcases h with h|h|h|h
 ·rw [if_neg (by omega),if_neg (by omega),if_neg (by omega),if_neg (by omega)];rfl
 ·rw [if_neg (by omega),if_pos (by omega),if_pos h]
 ·rw [if_neg (by omega),if_neg (by omega),if_neg (by omega),if_neg (by omega)];rfl
 ·rw [if_pos (by omega),if_neg (by omega),if_pos h];rfl
def sin (x:Re):Re:=ser sc x
def cos (x:Re):Re:=ser cc x
def exp (x:Re):Re:=ser one x
theorem zre (a b:Re):Der a b sin cos:=by
 have:=zGR zEE a b
 rwa [zKU] at this
theorem zpB (a b:Re):Der a b cos (fun x=> - sin x):=
 (zGR zDR a b).congr (fun _ _ _=>rfl) (fun x _ _=>zGQ zEE zDR.sh zKV x)
theorem zy9 (a b:Re):Der a b exp exp:=zGR zxc a b
theorem zkN:sin 0=0:=zu5 zEE
theorem zjG:cos 0=1:=zu5 zDR
theorem zlW:exp 0=1:=zu5 zxc
theorem Der.shift {a b:Re} (k:Re) {f g:Re->Re} (h:Der (k+a) (k+b) f g):Der a b (fun x=>f (k+x)) (fun x=>g (k+x)):=by
 obtain ⟨K,k0,hK⟩:=h
 refine ⟨K,k0,fun x y x1 x2 y1 y2=>?_⟩
 have:=hK (k+x) (k+y) (zgw (le_refl k) x1) (zgw (le_refl k) x2) (zgw (le_refl k) y1) (zgw (le_refl k) y2)
 rwa [show k+y-(k+x)=y-x from ring [k,x,y]] at this
theorem Der.flip {a b:Re} {f g:Re->Re} (h:Der (-b) (-a) f g):Der a b (fun x=>f (-x)) (fun x=> - g (-x)):=by
 obtain ⟨K,k0,hK⟩:=h
 refine ⟨K,k0,fun x y x1 x2 y1 y2=>?_⟩
 have:=hK (-x) (-y) (zU [x,b] (sn x2)) (zU [x,a] (sn x1)) (zU [y,b] (sn y2)) (zU [y,a] (sn y1))
 show abs (f (-y)-f (-x) - -g (-x)*(y-x))<=_
 generalize f (-y)=u at *;generalize f (-x)=v at *;generalize g (-x)=w at *
 rwa [show u-v-w*(-y - -x)=u-v - -w*(y-x) from ring [u,v,w,x,y],show (-y - -x)*(-y - -x)=(y-x)*(y-x) from ring [x,y]] at this
theorem Der.mapd {a b:Re} {f g g':Re->Re} (h:Der a b f g) (k:∀x,g x=g' x):Der a b f g':=h.congr (fun _ _ _=>rfl) (fun x _ _=>k x)
theorem zAJ {f:Re->Re} (h:∀a b,Der a b f (fun _=>0)) (x y:Re):f x=f y:=by
 rcases le_total x y with k|k
 ·exact ((h x y).zero k).symm
 ·exact (h y x).zero k
theorem uniq {f g:Re->Re} (h:∀a b,Der a b f g) (k:∀a b,Der a b g (fun x=> - f x)) (f0:f 0=0) (g0:g 0=0) (x:Re):f x=0/\g x=0:=by
 have e:f x*f x+g x*g x=f 0*f 0+g 0*g 0:=by
  refine zAJ (f:=fun x=>f x*f x+g x*g x) (fun a b=>?_) x 0
  rcases le_total a b with l|l
  ·refine (((h a b).mul (h a b) l).add ((k a b).mul (k a b) l)).mapd fun x=>?_
   generalize f x=u;generalize g x=v
   exact ring [u,v]
  ·refine ⟨0,le_refl 0,fun p q p1 p2 q1 q2=>?_⟩
   have e1:p=q:=by
    have hab:=le_antisymm (le_trans p1 p2) l
    exact (le_antisymm (hab▸p2) p1).trans (le_antisymm (hab▸q2) q1).symm
   subst e1
   show abs (f p*f p+g p*g p-(f p*f p+g p*g p)-0*(p-p))<=_
   generalize f p*f p+g p*g p=u
   rw [show u-u-0*(p-p)=0 from ring [u,p],abs_zero]
   exact zU [p] (le_refl 0)
 rw [f0,g0,show (0:Re)*0+0*0=0 from ring []] at e
 have a1:=sqn (f x)
 have a2:=sqn (g x)
 constructor
 ·refine zl5 (zob (le_refl 0) ?_)
  rw [zsg]
  generalize f x=u at *;generalize g x=v at *
  rw [show (0:Re)*0=0 from ring [],<- e];exact zU [u,v] a2
 ·refine zl5 (zob (le_refl 0) ?_)
  rw [zsg]
  generalize f x=u at *;generalize g x=v at *
  rw [show (0:Re)*0=0 from ring [],<- e];exact zU [u,v] a1
theorem zmK (x:Re):sin (-x)= - sin x:=by
 have:=(uniq (f:=fun x=>sin (-x)+sin x) (g:=fun x=>cos x + - cos (-x))
  (fun a b=>((zre _ _).flip.add (zre a b)).mapd fun x=>add_comm _ _)
  (fun a b=>((zpB a b).add (zpB _ _).flip.neg).mapd fun x=>by
   show-sin x + - - - sin (-x)= -(sin (-x)+sin x)
   generalize sin x=u;generalize sin (-x)=v;exact ring [u,v])
  (by show sin (-0)+sin 0=0;rw [show (-0:Re)=0 from ring [],zkN];exact ring [])
  (by show cos 0 + - cos (-0)=0;rw [show (-0:Re)=0 from ring [],zjG];exact ring []) x).1
 exact zb2 (zj9 [sin x,sin (-x)] this)
theorem zl1 (x:Re):cos (-x)=cos x:=by
 have:=(uniq (f:=fun x=>sin (-x)+sin x) (g:=fun x=>cos x + - cos (-x))
  (fun a b=>((zre _ _).flip.add (zre a b)).mapd fun x=>add_comm _ _)
  (fun a b=>((zpB a b).add (zpB _ _).flip.neg).mapd fun x=>by
   show-sin x + - - - sin (-x)= -(sin (-x)+sin x)
   generalize sin x=u;generalize sin (-x)=v;exact ring [u,v])
  (by show sin (-0)+sin 0=0;rw [show (-0:Re)=0 from ring [],zkN];exact ring [])
  (by show cos 0 + - cos (-0)=0;rw [show (-0:Re)=0 from ring [],zjG];exact ring []) x).2
 exact (zb2 (zj9 [cos x,cos (-x)] this)).symm
theorem zzL (a x:Re):sin (a+x)=sin a*cos x+cos a*sin x/\cos (a+x)=cos a*cos x-sin a*sin x:=by
 have:=uniq (f:=fun x=>sin (a+x) + -(sin a*cos x+cos a*sin x)) (g:=fun x=>cos (a+x) + -(cos a*cos x + - (sin a*sin x)))
  (fun l r=>((zre _ _).shift a |>.add (((zpB l r).smul (sin a)).add ((zre l r).smul (cos a))).neg).mapd fun x=>by
   show cos (a+x) + - (sin a *-sin x+cos a*cos x)=cos (a+x) + -(cos a*cos x + - (sin a*sin x))
   generalize cos (a+x)=p;generalize sin a=q;generalize cos a=r;generalize sin x=s;generalize cos x=t
   exact ring [p,q,r,s,t])
  (fun l r=>((zpB _ _).shift a |>.add (((zpB l r).smul (cos a)).add ((zre l r).smul (sin a)).neg).neg).mapd fun x=>by
   show-sin (a+x) + - (cos a *-sin x + - (sin a*cos x))= -(sin (a+x) + -(sin a*cos x+cos a*sin x))
   generalize sin (a+x)=p;generalize sin a=q;generalize cos a=r;generalize sin x=s;generalize cos x=t
   exact ring [p,q,r,s,t])
  (by
   show sin (a+0) + -(sin a*cos 0+cos a*sin 0)=0
   rw [add_zero,zkN,zjG];generalize sin a=q;generalize cos a=r;exact ring [q,r])
  (by
   show cos (a+0) + -(cos a*cos 0 + -(sin a*sin 0))=0
   rw [add_zero,zkN,zjG];generalize sin a=q;generalize cos a=r;exact ring [q,r]) x
 exact ⟨zb2 this.1,zb2 (by
  have h:cos (a+x) + -(cos a*cos x + -(sin a*sin x))=0:=this.2
  generalize cos (a+x)=p at *;generalize sin a=q at *;generalize cos a=r at *;generalize sin x=s at *;generalize cos x=t at *
  exact zj9 [p,q,r,s,t] h)⟩
theorem zyp (a x:Re):sin (a+x)=sin a*cos x+cos a*sin x:=(zzL a x).1
theorem zzh (a x:Re):cos (a+x)=cos a*cos x-sin a*sin x:=(zzL a x).2
theorem zo8 (a x:Re):sin (a-x)=sin a*cos x-cos a*sin x:=by
 rw [sub_eq,zyp,zmK,zl1];generalize sin a=q;generalize cos a=r;generalize sin x=s;generalize cos x=t
 exact ring [q,r,s,t]
theorem zzg (a x:Re):cos (a-x)=cos a*cos x+sin a*sin x:=by
 rw [sub_eq,zzh,zmK,zl1];generalize sin a=q;generalize cos a=r;generalize sin x=s;generalize cos x=t
 exact ring [q,r,s,t]
theorem zu6 (x:Re):sin x*sin x+cos x*cos x=1:=by
 have:=zzg x x
 rw [show x-x=0 from ring [x],zjG] at this
 rw [this,add_comm]
theorem zpA (x:Re):cos x<=1:=by
 have h:=zu6 x
 have k:=sqn (sin x)
 refine zob (qn 1) ?_
 generalize sin x=s at *;generalize cos x=c at *
 rw [show (1:Re)*1=s*s+c*c from by rw [h];exact ring []];exact zU [s,c] k
theorem zrd (x:Re):sin x<=1:=by
 have h:=zu6 x
 have k:=sqn (cos x)
 refine zob (qn 1) ?_
 generalize sin x=s at *;generalize cos x=c at *
 rw [show (1:Re)*1=s*s+c*c from by rw [h];exact ring []];exact zU [s,c] k
theorem zqD (x:Re): -1<=sin x:=by
 have:=zrd (-x);rw [zmK] at this;exact zU [sin x] (sn this)
theorem zFW {x:Re} (h:0<=x):sin x<=x:=by
 have:=Der.le (zre 0 x) (Der.id 0 x) h (fun y _ _=>zpA y)
 rw [zkN] at this
 exact zU [sin x,x] (sn this)
theorem sq_d (a b:Re):Der a b (fun x=>x*x) (fun x=>2*x):=⟨1,qn 1,fun x y _ _ _ _=>by
 rw [show y*y-x*x-2*x*(y-x)=(y-x)*(y-x) from ring [x,y],zbM (sqn _)]
 exact zU [x,y] (le_refl 0)⟩
theorem zGm {x:Re} (h:0<=x):1-x*x*rat (1/2)<=cos x:=by
 have:=Der.le ((sq_d 0 x).smul (rat (-1/2))) (zpB 0 x) h (fun y h0 _=>by
  have:=zFW h0;generalize sin y=s at *;exact zU [s,y] (sn this))
 rw [zjG] at this
 generalize cos x=c at *
 exact zU [x,c] (sn this)
theorem zGl (a b:Re) (h:a<=b):Der a b (fun x=>x*(x*x)) (fun x=>3*(x*x)):=
 ((Der.id a b).mul (sq_d a b) h).mapd fun x=>ring [x]
theorem zI6 (a b:Re) (h:a<=b):Der a b (fun x=>x*(x*(x*x))) (fun x=>4*(x*(x*x))):=
 ((Der.id a b).mul (zGl a b h) h).mapd fun x=>ring [x]
theorem zzM {x:Re} (h:0<=x):x-x*(x*x)*rat (1/6)<=sin x:=by
 have:=Der.le ((Der.id 0 x).add ((zGl 0 x h).smul (rat (-1/6)))) (zre 0 x) h (fun y h0 _=>by
  have:=zGm h0;generalize cos y=s at *;exact zU [s,y] (sn this))
 rw [zkN] at this
 generalize sin x=c at *
 exact zU [x,c] (sn this)
theorem zJe {x:Re} (h:0<=x):cos x<=1-x*x*rat (1/2)+x*(x*(x*x))*rat (1/24):=by
 have:=Der.le (zpB 0 x) (((sq_d 0 x).smul (rat (-1/2))).add ((zI6 0 x h).smul (rat (1/24)))) h (fun y h0 _=>by
  have:=zzM h0;generalize sin y=s at *;exact zU [s,y] (sn this))
 rw [zjG] at this
 generalize cos x=c at *
 exact zU [x,c] (sn this)
theorem zu3 {x:Re} (h:0<x) (k:x<=2):0<sin x:=by
 refine lt_of_lt_of_le ?_ (zzM (le_of_lt h))
 have h1:=mn (sn k) (pn (qn 2) (le_of_lt h))
 exact zfU [x] (mp h (ppn (qp (1/3)) (mn h1 (qn (1/6)))))
theorem zFc:∃p,0<=p/\p<=2/\cos p=0:=by
 have h02:(0:Re)<=2:=qn 2
 obtain ⟨L,l0,hL⟩:=(zpB 0 2).neg.lip h02
 obtain ⟨c,c1,c2,c3⟩:=zuB (f:=fun x=> - cos x) h02 l0 hL (by
  show-cos 0<=0;rw [zjG];exact zU [] (qn 1)) (by
  have:=zJe (x:=2) h02
  show 0 <= - cos 2
  generalize cos 2=c at *
  exact zU [c] (pn (sn this) (qn (1/3))))
 exact ⟨c,c1,c2,zj9 [cos c] (congrArg (fun t=> -t) c3: - - cos c= - 0)⟩
def hp:Re:=Classical.choose zFc
theorem hp_2:hp<=2:=(Classical.choose_spec zFc).2.1
theorem zkb:cos hp=0:=(Classical.choose_spec zFc).2.2
theorem hp_1:1<=hp:=by
 rcases lt_or_le hp 1 with k|k
 ·have h0:0<=hp:=(Classical.choose_spec zFc).1
  have:=zGm h0
  rw [zkb] at this
  generalize hp=p at *
  exact absurd (zfU [p] (ppn (qp (1/2)) (mn (mn (sn (le_of_lt k)) (pn (qn 1) h0)) (qn (1/2)))):(0:Re)<1-p*p*rat (1/2)) this
 ·exact k
theorem hp_p:0<hp:=lt_of_lt_of_le (qp 1) hp_1
theorem znu:sin hp=1:=by
 have h:=zu6 hp
 have k:=zu3 hp_p hp_2
 rw [zkb] at h
 refine zIw (le_of_lt k) (qn 1) ?_
 generalize sin hp=s at *
 rw [show (1:Re)*1=1 from ring [],<- h];exact ring [s]
theorem zt0 (x:Re):sin (hp-x)=cos x:=by rw [zo8,znu,zkb];generalize sin x=s;generalize cos x=c;exact ring [s,c]
theorem zng (x:Re):cos (hp-x)=sin x:=by rw [zzg,znu,zkb];generalize sin x=s;generalize cos x=c;exact ring [s,c]
theorem zt1 (x:Re):sin (x+hp)=cos x:=by rw [zyp,znu,zkb];generalize sin x=s;generalize cos x=c;exact ring [s,c]
theorem zus (x:Re):cos (x+hp)= - sin x:=by rw [zzh,znu,zkb];generalize sin x=s;generalize cos x=c;exact ring [s,c]
theorem zvQ {x:Re} (h:0<=x) (k:x<hp):0<cos x:=by
 rw [<- zt0]
 exact zu3 (sp k) (le_trans (zU [hp,x] h) hp_2)
theorem zl0 {x:Re} (h: -hp<x) (k:x<hp):0<cos x:=by
 rcases le_total 0 x with m|m
 ·exact zvQ m k
 ·rw [<- zl1];exact zvQ (zmh m) (zfU [x,hp] (sp h))
theorem zAG {x:Re} (h: -hp<=x) (k:x<=hp):0<=cos x:=by
 rcases le_iff.1 h with h|h
 ·rcases le_iff.1 k with k|k
  ·exact le_of_lt (zl0 h k)
  ·rw [k,zkb];exact le_refl _
 ·rw [<- h,zl1,zkb];exact le_refl _
def pi:Re:=2*hp
theorem zyo {x:Re} (h:0<x) (k:x<pi):0<sin x:=by
 rw [<- zng]
 exact zl0 (zfU [x,hp] (sp (show x<2*hp from k))) (zfU [x,hp] h)
theorem zIB {x:Re} (h:0<=x) (k:x<=pi):0<=sin x:=by
 rw [<- zng]
 exact zAG (zU [x,hp] (sn (show x<=2*hp from k))) (zU [x,hp] h)
theorem zJd:cos pi= -1:=by rw [pi,show 2*hp=hp+hp from ring [hp],zus,znu]
theorem zqC {x y:Re} (h: -hp<=x) (hxy:x<=y) (k:y<=hp):sin x<=sin y:=
 (zre x y).mono (fun z h1 h2=>zAG (le_trans h h1) (le_trans h2 k)) hxy
theorem zGM {x y:Re} (hx: -hp<=x) (hx':x<=hp) (hy: -hp<=y) (hy':y<=hp) (h:sin x=sin y):x=y:=by
 have hc:cos x=cos y:=by
  refine zIw (zAG hx hx') (zAG hy hy') ?_
  have a:=zu6 x
  have b:=zu6 y
  rw [h] at a
  generalize sin y=s at *;generalize cos x=c at *;generalize cos y=d at *
  exact zj9 [s,c,d] (a.trans b.symm)
 have key:∀u v,-hp<=u->v<=hp->sin u=sin v->cos u=cos v->¬u<v:=fun u v hu hv e1 e2 l=>by
  have e:sin (v-u)=0:=by rw [zo8,e1,e2];generalize sin v=s;generalize cos v=c;exact ring [s,c]
  rcases le_iff.1 (show v-u<=pi from zU [u,v,hp] (pn (sn hu) (sn hv)) (x:=v-u) (y:=2*hp)) with m|m
  ·exact lt_irrefl _ (e▸zyo (sp l) m)
  ·have c1:cos (v-u)=1:=by rw [zzg,e1,e2];have:=zu6 v;rw [add_comm] at this;exact this
   rw [m,zJd] at c1
   exact lt_irrefl (1:Re) (by have h:(-1:Re)<1:=zz5 (-1) 1;rwa [c1] at h)
 rcases tri x y with l|l|l
 ·exact absurd l (key x y hx hy' h hc)
 ·exact l
 ·exact absurd l (key y x hy hx' h.symm hc.symm)
theorem zrZ (a x:Re):exp (a+x)*exp (-x)=exp a:=by
 have:exp (a+x)*exp (-x)=exp (a+0)*exp (-0):=by
  refine zAJ (f:=fun x=>exp (a+x)*exp (-x)) (fun l r=>?_) x 0
  rcases le_total l r with h|h
  ·refine (((zy9 _ _).shift a).mul (zy9 _ _).flip h).mapd fun x=>?_
   generalize exp (a+x)=u;generalize exp (-x)=v
   exact ring [u,v]
  ·refine ⟨0,le_refl 0,fun p q p1 p2 q1 q2=>?_⟩
   have e1:p=q:=by
    have hab:=le_antisymm (le_trans p1 p2) h
    exact (le_antisymm (hab▸p2) p1).trans (le_antisymm (hab▸q2) q1).symm
   subst e1
   show abs (exp (a+p)*exp (-p)-exp (a+p)*exp (-p)-0*(p-p))<=_
   generalize exp (a+p)*exp (-p)=u
   rw [show u-u-0*(p-p)=0 from ring [u,p],abs_zero]
   exact zU [p] (le_refl 0)
 rw [this,add_zero,show (-0:Re)=0 from ring [],zlW,mul_one]
theorem zr1 (x:Re):exp x*exp (-x)=1:=by
 have:=zrZ 0 x
 rwa [zero_add,zlW] at this
theorem zr2 (a x:Re):exp (a+x)=exp a*exp x:=by
 have h1:=zrZ a x
 have h2:=zr1 x
 rw [<- h1]
 generalize exp (a+x)=u at *;generalize exp x=v at *;generalize exp (-x)=w at *
 exact zj9 [u,v,w] (congrArg (fun t=> - (u*t)) h2: - (u*(v*w))= - (u*1))
theorem znS (x:Re):0<exp x:=by
 have h:exp x=exp (x*rat (1/2))*exp (x*rat (1/2)):=by rw [<- zr2];congr 1;exact ring [x]
 rcases le_iff.1 (h▸sqn (exp (x*rat (1/2))):0<=exp x) with k|k
 ·exact k
 ·have:=zr1 x
  rw [<- k,zero_mul] at this
  exact absurd (this▸(qp 1:(0:Re)<1)) (lt_irrefl _)
theorem zAv {x:Re} (h:0<=x):1+x<=exp x:=by
 have h1:∀y,0<=y->1<=exp y:=fun y hy=>by
  have:=(zy9 0 y).mono (fun z _ _=>le_of_lt (znS z)) hy
  rwa [zlW] at this
 have:=Der.le (Der.id 0 x) (zy9 0 x) h (fun y h0 _=>h1 y h0)
 rw [zlW] at this
 exact zU [exp x,x] (sn this)
theorem zoE {x y:Re} (h:x<=y):exp x<=exp y:=(zy9 x y).mono (fun z _ _=>le_of_lt (znS z)) h
theorem zAu {x y:Re} (h:x<y):exp x<exp y:=by
 have h1:=zAv (sn (le_of_lt h))
 have h2:=zr2 x (y-x)
 rw [show x+(y-x)=y from ring [x,y]] at h2
 have h3:=znS x
 rw [h2]
 generalize exp x=u at *;generalize exp (y-x)=v at *
 exact zfU [u,v,x,y] (pnp (mn (le_of_lt h3) (sn h1)) (mp h3 (sp h)))
theorem zy8 {x y:Re} (h:exp x=exp y):x=y:=by
 rcases tri x y with l|l|l
 ·exact absurd (h▸zAu l) (lt_irrefl _)
 ·exact l
 ·exact absurd (h▸zAu l) (lt_irrefl _)
end Go.Proofs.YtkenfaengphiiaaGreatDoor.An
namespace Go.Proofs.YtkenfaengphiiaaGreatDoor.An
def monQ (x:Rat):Nat->Rat
 | 0=>1
 | n+1=>monQ x n*x*(1/((n+1:Nat):Rat))
theorem zpt (q:Rat) (n:Nat):mon (rat q) n=rat (monQ q n):=by
 induction n with
 | zero=>rfl
 | succ n ih=>simp only [mon,monQ,ih,zk3]
def zmN (c:Nat->Rat) (x:Rat):Nat->Rat
 | 0=>0
 | n+1=>zmN c x n+c n*monQ x n
theorem zzW (c:Nat->Rat) (q:Rat) (n:Nat):psum c (rat q) n=rat (zmN c q n):=by
 induction n with
 | zero=>rfl
 | succ n ih=>simp only [psum,zmN,ih,zpt,zk3,zk4]
theorem zAH {q:Rat} (h0:0<=q) (h2:q<=2):abs (cos (rat q)-rat (zmN cc q 40))<=rat (2*monQ 2 40):=by
 have:=zoc zDR (x:=rat q) (M:=rat 2) (i:=40) (by rw [zbM (zwH h0)];exact zkP.2 h2) (zj1 (2*2) ((40+1:Nat):Rat))
 rw [zzW,zpt] at this
 exact this
theorem sub_le_self {x y:Re} (h:0<=y):x-y<=x:=zU [x,y] h
theorem zLd {q:Rat} (h0:0<=q) (h2:q<=2) (h:decide (2*monQ 2 40<=zmN cc q 40)=true):rat q<=hp:=by
 rcases lt_or_le hp (rat q) with k|k
 ·have h1:=zu3 (sp k) (le_trans (sub_le_self (le_of_lt hp_p)) (zkP.2 h2))
  rw [zo8,znu,zkb] at h1
  have h3:=(zdT (zAH h0 h2)).1
  have h4:rat (2*monQ 2 40)<=rat (zmN cc q 40):=zkP.2 (of_decide_eq_true h)
  generalize rat (zmN cc q 40)=p at *;generalize rat (2*monQ 2 40)=t at *;generalize cos (rat q)=c at *;generalize sin (rat q)=s at *
  exact absurd (zU [p,t,c] (pn (sn h3) (sn h4)):0<=c) (not_le.2 (zfU [c,s] h1))
 ·exact k
theorem zLc {q:Rat} (h0:0<=q) (h2:q<=2) (h:decide (zmN cc q 40+2*monQ 2 40<=0)=true):hp<=rat q:=by
 rcases lt_or_le (rat q) hp with k|k
 ·have h1:=zvQ (zwH h0) k
  have h3:=(zdT (zAH h0 h2)).2
  have h4:rat (zmN cc q 40)+rat (2*monQ 2 40)<=0:=by rw [<- zk4];exact zkP.2 (of_decide_eq_true h)
  generalize rat (zmN cc q 40)=p at *;generalize rat (2*monQ 2 40)=t at *;generalize cos (rat q)=c at *
  exact absurd (zU [p,t,c] (pn (sn h3) (sn h4)):c<=0) (not_le.2 h1)
 ·exact k
theorem zHA:rat (7244019458077122842/4611686018427387904)<=hp:=zLd (by decide +kernel) (by decide +kernel) (by kernel_rfl)
theorem zHB:hp<=rat (7244019458077122843/4611686018427387904):=zLc (by decide +kernel) (by decide +kernel) (by kernel_rfl)
theorem zvU (t:Re):∃a,-hp<a/\a<hp/\sin a=t*cos a:=by
 have h0: -hp<=hp:=zU [hp] (kn 2 (le_of_lt hp_p))
 obtain ⟨L,l0,hL⟩:=((zre (-hp) hp).add ((zpB (-hp) hp).smul (-t))).lip h0
 obtain ⟨c,c1,c2,c3⟩:=zuB (f:=fun x=>sin x + -t*cos x) h0 l0 hL (by
  show sin (-hp) + -t*cos (-hp)<=0
  rw [zmK,zl1,znu,zkb];exact zU [t] (qn 1)) (by
  show 0<=sin hp + -t*cos hp
  rw [znu,zkb];exact zU [t] (qn 1))
 have e:sin c=t*cos c:=zb2 (zj9 [sin c,cos c,t] c3)
 refine ⟨c,?_,?_,e⟩
 ·rcases le_iff.1 c1 with k|k
  ·exact k
  ·rw [<- k,zmK,zl1,znu,zkb,mul_zero] at e
   have h:(-1:Re)<0:=zz5 (-1) 0
   rw [e] at h;exact absurd h (lt_irrefl _)
 ·rcases le_iff.1 c2 with k|k
  ·exact k
  ·rw [k,znu,zkb,mul_zero] at e
   have h:(0:Re)<1:=qp 1
   rw [e] at h;exact absurd h (lt_irrefl _)
def atan (t:Re):Re:=Classical.choose (zvU t)
theorem zsd (t:Re): -hp<atan t:=(Classical.choose_spec (zvU t)).1
theorem znU (t:Re):atan t<hp:=(Classical.choose_spec (zvU t)).2.1
theorem zkc (t:Re):sin (atan t)=t*cos (atan t):=(Classical.choose_spec (zvU t)).2.2
theorem zjI (t:Re):0<cos (atan t):=zl0 (zsd t) (znU t)
theorem zAN (s t:Re):sin (atan s-atan t)=(s-t)*(cos (atan s)*cos (atan t)):=by
 rw [zo8,zkc,zkc];generalize cos (atan s)=c;generalize cos (atan t)=d;exact ring [s,t,c,d]
theorem zgO {s t:Re} (h:s<=t):atan s<=atan t:=by
 rcases lt_or_le (atan t) (atan s) with k|k
 ·have h1:=znU s
  have h2:=zsd t
  have h3:=zyo (sp k) (zfU [atan s,atan t,hp] (pp (sp h1) (sp h2)):atan s-atan t<2*hp)
  rw [zAN] at h3
  have h4:=mn (sn h) (mn (le_of_lt (zjI s)) (le_of_lt (zjI t)))
  generalize cos (atan s)=c at *;generalize cos (atan t)=d at *
  exact absurd (zU [s,t,c,d] h4:(s-t)*(c*d)<=0) (not_le.2 h3)
 ·exact k
theorem zhh {a t:Re} (h1: -hp<a) (h2:a<hp) (h:sin a=t*cos a):a=atan t:=by
 have key:∀u v,-hp<v->u<hp->sin u=t*cos u->sin v=t*cos v->¬v<u:=fun u v hv hu e1 e2 k=>by
  have h3:=zyo (sp k) (zfU [u,v,hp] (pp (sp hu) (sp hv)):u-v<2*hp)
  rw [zo8,e1,e2] at h3
  have:t*cos u*cos v-cos u*(t*cos v)=0:=by generalize cos u=c;generalize cos v=d;exact ring [t,c,d]
  rw [this] at h3
  exact lt_irrefl _ h3
 rcases tri a (atan t) with k|k|k
 ·exact absurd k (key _ _ h1 (znU t) (zkc t) h)
 ·exact k
 ·exact absurd k (key _ _ (zsd t) h2 h (zkc t))
theorem zqP (t:Re):atan (-t)= - atan t:=by
 have h1:=zsd t
 have h2:=znU t
 have h3:=zkc t
 refine (zhh (zfU [atan t,hp] (sp h2)) (zfU [atan t,hp] (sp h1)) ?_).symm
 rw [zmK,zl1,h3];generalize cos (atan t)=c;exact ring [t,c]
theorem zxM:atan 0=0:=by
 refine (zhh (zfU [hp] hp_p) hp_p ?_).symm
 rw [zkN,zero_mul]
theorem zzo (t:Re):(1+t*t)*(cos (atan t)*cos (atan t))=1:=by
 have:=zu6 (atan t)
 rw [zkc] at this
 generalize cos (atan t)=c at *;exact zj9 [t,c] this
theorem zDM {x y:Re} (h:x<=y):abs (cos y-cos x)<=y-x:=by
 refine zeT ?_ ?_
 ·have:=Der.le ((Der.id x y).neg) (zpB x y) h (fun z _ _=>by have:=zrd z;generalize sin z=s at *;exact zU [s] (sn this))
  exact zU [cos x,cos y,x,y] (sn this)
 ·have:=Der.le (zpB x y) (Der.id x y) h (fun z _ _=>by have:=zqD z;generalize sin z=s at *;exact zU [s] (sn this))
  exact zU [cos x,cos y,x,y] (sn this)
theorem zuu {x:Re} (h:abs x<=rat (1/4)):abs (atan x)<=1:=by
 have key:∀x,x<=rat (1/4)->atan x<=1:=fun x hx=>by
  rcases lt_or_le 1 (atan x) with k|k
  ·have h1:=zqC (x:=1) (y:=atan x) (zU [hp] (pn (qn 1) (le_of_lt hp_p))) (le_of_lt k) (le_of_lt (znU x))
   have h2:=zzM (x:=1) (qn 1)
   have h3:=zpA (atan x)
   have h4:=zjI x
   rw [zkc] at h1
   generalize cos (atan x)=c at *;generalize sin 1=s at *
   exact absurd (zU [x,c,s] (pn (pn (sn h1) (sn h2)) (pn (mn (sn hx) (le_of_lt h4)) (kn (1/4) (sn h3)))):(1:Re)-rat (1/6)<=rat (1/4)) (not_le.2 (zfU [] (qp (7/12))))
  ·exact k
 refine zeT ?_ (key x (le_trans (zoA x) h))
 have:=key (-x) (le_trans (zih x) h)
 rw [zqP] at this
 exact zU [atan x] (sn this)
theorem zJq:Der (-rat (1/4)) (rat (1/4)) atan (fun x=>cos (atan x)*cos (atan x)):=by
 refine ⟨6,qn 6,fun x y x1 x2 y1 y2=>?_⟩
 show abs (atan y-atan x-cos (atan x)*cos (atan x)*(y-x))<=6*((y-x)*(y-x))
 have hx:=zuu (zeT x1 x2)
 have hy:=zuu (zeT y1 y2)
 have key:∀u v,abs (atan u)<=1->abs (atan v)<=1->u<=v->atan v-atan u<=3*(v-u)/\atan v-atan u-(v-u)*(cos (atan u)*cos (atan v))<=3*((v-u)*(v-u))/\0<=atan v-atan u-(v-u)*(cos (atan u)*cos (atan v)):=fun u v hu hv l=>by
  have m:=zgO l
  have s1:=zzM (sn m)
  have s2:=zFW (sn m)
  have e:=zAN v u
  have c1:=zpA (atan u)
  have c2:=zpA (atan v)
  have c3:=le_of_lt (zjI u)
  have c4:=le_of_lt (zjI v)
  have d2:atan v-atan u<=2:=by
   have:=(zdT hu).1;have:=(zdT hv).2
   generalize atan u=a at *;generalize atan v=b at *
   exact zU [a,b] (pn (sn (zdT hu).1) (sn (zdT hv).2))
  rw [mul_comm (cos (atan v))] at e
  rw [<- e]
  have d0:=sn m
  generalize atan v-atan u=d at *
  generalize sin d=s at *
  have t1:cos (atan u)*cos (atan v)<=1:=by
   generalize cos (atan u)=p at *;generalize cos (atan v)=q at *
   exact zU [p,q] (pn (mn (sn c1) c4) (sn c2))
  have t2:s<=v-u:=by
   rw [e];have:=sn l
   generalize cos (atan u)*cos (atan v)=p at *
   exact zU [u,v,p] (mn this (sn t1))
  have q0:=mn d0 d0
  have t3:d<=3*s:=zU [d,s] (pn (kn 3 (sn s1)) (kn (1/2) (mn d0 (mn (sn d2) (pn (qn 2) d0)))))
  have t4:d<=3*(v-u):=zU [d,s,u,v] (pn (sn t3) (kn 3 (sn t2)))
  refine ⟨t4,?_,sn s2⟩
  exact zU [d,s,u,v] (pn (pn (sn s1) (kn (1/6) (mn q0 (sn d2)))) (pn (kn (1/3) (mn d0 (sn t4))) (mn (sn t4) (sn l))))
 rcases le_total x y with l|l
 ·obtain ⟨k1,k2,k3⟩:=key x y hx hy l
  have m:=zgO l
  have c:=zdT (zDM m)
  have c1:=zpA (atan x)
  have c3:=le_of_lt (zjI x)
  generalize cos (atan x)=p at *;generalize cos (atan y)=q at *
  generalize hd:atan y-atan x=d at *
  have z1:=mn (mn c3 (sn l)) (sn c.1)
  have z2:=mn (mn c3 (sn l)) (sn c.2)
  have z3:=mn (sn l) (sn k1)
  have z4:=mn (mn (sn c1) (sn l)) (sn m)
  rw [hd] at z4
  refine zeT ?_ ?_
  ·exact zU [d,p,q,x,y] (pn (pn (pn k3 z1) (pn z3 z4)) (kn 3 (sqn (y-x))))
  ·exact zU [d,p,q,x,y] (pn (pn (pn (sn k2) z2) z3) z4)
 ·obtain ⟨k1,k2,k3⟩:=key y x hy hx l
  have m:=zgO l
  have c:=zdT (zDM m)
  have c1:=zpA (atan x)
  have c3:=le_of_lt (zjI x)
  generalize cos (atan x)=p at *;generalize cos (atan y)=q at *
  rw [show atan y-atan x= - (atan x-atan y) from ring [atan x,atan y]]
  generalize hd:atan x-atan y=d at *
  have z1:=mn (mn c3 (sn l)) (sn c.1)
  have z2:=mn (mn c3 (sn l)) (sn c.2)
  have z3:=mn (sn l) (sn k1)
  have z4:=mn (mn (sn c1) (sn l)) (sn m)
  rw [hd] at z4
  refine zeT ?_ ?_
  ·exact zU [d,p,q,x,y] (pn (pn (pn (sn k2) z1) z3) z4)
  ·exact zU [d,p,q,x,y] (pn (pn (pn k3 z2) (pn z3 z4)) (kn 3 (sqn (y-x))))
end Go.Proofs.YtkenfaengphiiaaGreatDoor.An
namespace Go.Proofs.YtkenfaengphiiaaGreatDoor.An
theorem zHJ {x y:Re} (e:x=y) (h:0<=y):0<=x:=e▸h
theorem zK1 {a b:Re} (h:a<=b) (n:Nat):Der a b (fun x=>x^(n+1)) (fun x=>rat ((n+1:Nat):Rat)*x^n):=by
 induction n with
 | zero=>
  refine (Der.id a b).congr (fun x _ _=>?_) (fun x _ _=>?_)
  ·show x=1*x;exact ring [x]
  ·show 1=rat 1*1;exact ring []
 | succ n ih=>
  refine (ih.mul (Der.id a b) h).congr (fun x _ _=>rfl) (fun x _ _=>?_)
  show rat ((n+1:Nat):Rat)*x^n*x+x^n*x*1=rat ((n+2:Nat):Rat)*(x^n*x)
  rw [zos (n+1)]
  generalize rat ((n+1:Nat):Rat)=r;generalize x^n=p
  exact ring [r,p,x]
theorem zCp {x M:Re} (h:abs x<=M) (n:Nat):abs (x^n)<=M^n:=by
 induction n with
 | zero=>exact le_of_eq (zbM (qn 1))
 | succ n ih=>exact zeD ih h
theorem Der.bound {a b e:Re} {f g:Re->Re} (h:Der a b f g) (hab:a<=b) (hg:∀x,a<=x->x<=b->abs (g x)<=e):abs (f b-f a)<=e*(b-a):=by
 have h1:=Der.le h ((Der.id a b).smul e) hab (fun x x1 x2=>by have:=(zdT (hg x x1 x2)).2;generalize g x=u at *;exact zU [u,e] (sn this))
 have h2:=Der.le ((Der.id a b).smul (-e)) h hab (fun x x1 x2=>by have:=(zdT (hg x x1 x2)).1;generalize g x=u at *;exact zU [u,e] (sn this))
 generalize f a=u at *;generalize f b=v at *
 exact zeT (zU [u,v,e,a,b] (sn h2)) (zU [u,v,e,a,b] (sn h1))
theorem Der.bound0 {m e x:Re} {f g:Re->Re} (h:Der (-m) m f g) (hx:abs x<=m) (hg:∀x,abs x<=m->abs (g x)<=e) (f0:f 0=0):abs (f x)<=e*abs x:=by
 have hm:=le_trans (zeS x) hx
 obtain ⟨x1,x2⟩:=zdT hx
 rcases le_total 0 x with k|k
 ·have:=(h.sub (c:=0) (d:=x) (zU [m] hm) x2).bound k (fun y y1 y2=>hg y (zeT (le_trans (zU [m] hm) y1) (le_trans y2 x2)))
  rw [f0] at this
  rw [zbM k]
  generalize f x=u at *
  rwa [show u-0=u from ring [u],show x-0=x from ring [x]] at this
 ·have:=(h.sub (c:=x) (d:=0) x1 hm).bound k (fun y y1 y2=>hg y (zeT (le_trans x1 y1) (le_trans y2 hm)))
  rw [f0] at this
  rw [zgi k,<- abs_neg]
  generalize f x=u at *
  rwa [show 0-u= -u from ring [u],show 0-x= -x from ring [x]] at this
def aP (s:Rat) (x:Re):Nat->Re
 | 0=>0
 | k+1=>aP s x k+rat (s^k*(1/((2*k+1:Nat):Rat)))*x^(2*k+1)
def aD (s:Rat) (x:Re):Nat->Re
 | 0=>0
 | k+1=>aD s x k+rat (s^k)*x^(2*k)
theorem aP_d (s:Rat) {a b:Re} (h:a<=b) (n:Nat):Der a b (fun x=>aP s x n) (fun x=>aD s x n):=by
 induction n with
 | zero=>exact Der.const a b 0
 | succ n ih=>
  refine (ih.add ((zK1 h (2*n)).smul (rat (s^n*(1/((2*n+1:Nat):Rat)))))).mapd fun x=>?_
  show aD s x n+rat (s^n*(1/((2*n+1:Nat):Rat)))*(rat ((2*n+1:Nat):Rat)*x^(2*n))=aD s x n+rat (s^n)*x^(2*n)
  have:=zvD (2*n)
  rw [zk3]
  generalize rat ((2*n+1:Nat):Rat)=r at *;generalize rat (1/((2*n+1:Nat):Rat))=i at *;generalize rat (s^n)=t;generalize x^(2*n)=p;generalize aD s x n=q
  exact zj9 [r,i,t,p,q] (congrArg (fun z=>t*p*z) this:t*p*(r*i)=t*p*1)
theorem zGo (s:Rat) (x:Re) (n:Nat):(1-rat s*(x*x))*aD s x n=1-rat (s^n)*x^(2*n):=by
 induction n with
 | zero=>
  have e:s^0=1:=by simp
  rw [e]
  show (1-rat s*(x*x))*0=1-rat 1*1;generalize rat s=t;exact ring [t,x]
 | succ n ih=>
  show (1-rat s*(x*x))*(aD s x n+rat (s^n)*x^(2*n))=1-rat (s^(n+1))*(x^(2*n)*x*x)
  rw [Rat.pow_succ,zk3,mul_add,ih]
  generalize rat s=t;generalize rat (s^n)=u;generalize x^(2*n)=p
  exact ring [t,u,p,x]
theorem zvW (s:Rat) (n:Nat):aP s 0 n=0:=by
 induction n with
 | zero=>rfl
 | succ n ih=>
  show aP s 0 n+_*(npow 0 (2*n)*0)=0
  rw [ih,mul_zero,mul_zero,add_zero]
theorem zD0 {x:Re} (h:abs x<=rat (1/4)):abs (atan x-aP (-1) x 11)<=rat (1/70368744177664):=by
 have hd:Der (-rat (1/4)) (rat (1/4)) (fun x=>atan x + - aP (-1) x 11) (fun x=>cos (atan x)*cos (atan x) + - aD (-1) x 11):=by
  refine Der.add ?_ (aP_d (-1) (zU [] (qn (1/2))) 11).neg
  exact zJq
 have:=hd.bound0 (e:=rat (1/17592186044416)) h (fun y hy=>by
  show abs (cos (atan y)*cos (atan y) + - aD (-1) y 11)<=_
  have h1:=zzo y
  have h2:=zGo (-1) y 11
  have h3:abs (y^(2*11))<=rat (1/4)^(2*11):=zCp hy _
  have h4:rat (1/4)^(2*11)<=rat (1/17592186044416):=zU [] (le_refl 0)
  have h5:=le_trans h3 h4
  rw [show rat ((-1)^11)= -1 from (by decide +kernel:((-1:Rat)^11)= -1)▸rfl] at h2
  have h6:=sqn y
  have hp:0<1+y*y:=ppn (qp 1) h6
  generalize cos (atan y)*cos (atan y)=c at *;generalize aD (-1) y 11=d at *;generalize y^(2*11)=w at *
  have e:(c + -d)*(1+y*y)= -w:=zj9 [c,d,w,y] (show (1+y*y)*c + -((1-rat (-1)*(y*y))*d)=1 + -(1 - -1*w) by rw [h1,h2])
  have e2:abs (c + -d)*(1+y*y)=abs w:=by
   rw [show abs (c + -d)*(1+y*y)=abs (c + -d)*abs (1+y*y) from by rw [zbM (le_of_lt hp)],<- zl4,e,abs_neg]
  have h7:=zeS (c + -d)
  generalize abs (c + -d)=u at *;generalize abs w=v at *
  generalize rat (1/17592186044416)=t at *
  exact zU [u,v,t,y] (pn (sn h5) (zHJ (show v-u*(1+y*y)+u*(y*y)=u*(y*y) by rw [e2];exact ring [u,v,y]) (mn h7 h6)))) (by
  show atan 0 + - aP (-1) 0 11=0
  rw [zxM,zvW];exact ring [])
 refine le_trans (this:abs (atan x-aP (-1) x 11)<=_) ?_
 generalize abs x=u at *
 exact zU [u] (kn (1/17592186044416) (sn h))
def monP:Nat->PE
 | 0=> .q 1
 | n+1=> .mul (.mul (monP n) (.v 0)) (.q (1/((n+1:Nat):Rat)))
def zEN (c:Nat->Rat):Nat->PE
 | 0=> .q 0
 | n+1=> .add (zEN c n) (.mul (.q (c n)) (monP n))
def aPP (s:Rat):Nat->PE
 | 0=> .q 0
 | k+1=> .add (aPP s k) (.mul (.q (s^k*(1/((2*k+1:Nat):Rat)))) (.pow (.v 0) (2*k+1)))
theorem zHk (x:Re) (n:Nat):(monP n).ev [x]=mon x n:=by
 induction n with
 | zero=>rfl
 | succ n ih=>simp only [monP,PE.ev,ih,mon];rfl
theorem zEM (c:Nat->Rat) (x:Re) (n:Nat):(zEN c n).ev [x]=psum c x n:=by
 induction n with
 | zero=>rfl
 | succ n ih=>simp only [zEN,PE.ev,ih,psum,zHk]
theorem zJs (s:Rat) (x:Re) (n:Nat):(aPP s n).ev [x]=aP s x n:=by
 induction n with
 | zero=>rfl
 | succ n ih=>simp only [aPP,PE.ev,ih,aP];rfl
instance rfPsum {c:Nat->Rat} {x:Re} {n:Nat}:Rf [x] (psum c x n) (zEN c n):=⟨zEM c x n⟩
instance rfAP {s:Rat} {x:Re} {n:Nat}:Rf [x] (aP s x n) (aPP s n):=⟨zJs s x n⟩
theorem zzn {x:Re} (h:abs x<=rat (1/4)):abs (atan x-x*(rat (1/1)-x*x*(rat (1/3)-x*x*(rat (1/5)-x*x*(rat (1/7)-x*x*(rat (1/9)-x*x*(rat (1/11)-x*x*(rat (1/13)-x*x*(rat (1/15)-x*x*(rat (1/17)-x*x*(rat (1/19)-x*x*rat (1/21))))))))))))<=rat (1/4294967296):=by
 have h1:=zD0 h
 have e:aP (-1) x 11=x*(rat (1/1)-x*x*(rat (1/3)-x*x*(rat (1/5)-x*x*(rat (1/7)-x*x*(rat (1/9)-x*x*(rat (1/11)-x*x*(rat (1/13)-x*x*(rat (1/15)-x*x*(rat (1/17)-x*x*(rat (1/19)-x*x*rat (1/21))))))))))):=by
  exact ring [x]
 rw [e] at h1
 exact le_trans h1 (zj1 _ _)
theorem zA5 {x:Re} (h:abs x<=1):abs (sin x-x*(1-x*x*rat (1/6)*(1-x*x*rat (1/20)*(1-x*x*rat (1/42)*(1-x*x*rat (1/72)*(1-x*x*rat (1/110)*(1-x*x*rat (1/156)*(1-x*x*rat (1/210)*(1-x*x*rat (1/272)*1)))))))))<=rat (1/8589934592):=by
 have h1:=zoc zEE (i:=18) h (zj1 (2*1) ((18+1:Nat):Rat))
 have e:psum sc x 18=x*(1-x*x*rat (1/6)*(1-x*x*rat (1/20)*(1-x*x*rat (1/42)*(1-x*x*rat (1/72)*(1-x*x*rat (1/110)*(1-x*x*rat (1/156)*(1-x*x*rat (1/210)*(1-x*x*rat (1/272)*1)))))))):=by
  exact ring [x]
 have e2:2*mon 1 18<=rat (1/8589934592):=by
  rw [show (1:Re)=rat 1 from rfl,zpt]
  exact zj1 (2*monQ 1 18) _
 rw [e] at h1
 exact le_trans h1 e2
theorem zBw {x:Re} (h:abs x<=1):abs (cos x-(1-x*x*rat (1/2)*(1-x*x*rat (1/12)*(1-x*x*rat (1/30)*(1-x*x*rat (1/56)*(1-x*x*rat (1/90)*(1-x*x*rat (1/132)*(1-x*x*rat (1/182)*(1-x*x*rat (1/240)*1)))))))))<=rat (1/8589934592):=by
 have h1:=zoc zDR (i:=17) h (zj1 (2*1) ((17+1:Nat):Rat))
 have e:psum cc x 17=(1-x*x*rat (1/2)*(1-x*x*rat (1/12)*(1-x*x*rat (1/30)*(1-x*x*rat (1/56)*(1-x*x*rat (1/90)*(1-x*x*rat (1/132)*(1-x*x*rat (1/182)*(1-x*x*rat (1/240)*1)))))))):=by
  exact ring [x]
 have e2:2*mon 1 17<=rat (1/8589934592):=by
  rw [show (1:Re)=rat 1 from rfl,zpt]
  exact zj1 (2*monQ 1 17) _
 rw [e] at h1
 exact le_trans h1 e2
end Go.Proofs.YtkenfaengphiiaaGreatDoor.An
namespace Go.Proofs.YtkenfaengphiiaaGreatDoor.An
def zi (k:Int):Re:=rat (k:Rat)
theorem zpW (a b:Int):zi (a+b)=zi a+zi b:=by unfold zi;rw [Rat.intCast_add,zk4]
theorem zn2 (a:Int):zi (-a)= - zi a:=by unfold zi;rw [Rat.intCast_neg,zyv]
theorem ztT (a b:Int):zi (a-b)=zi a-zi b:=by rw [Int.sub_eq_add_neg,zpW,zn2];rfl
theorem zc8 (a b:Int):zi (a*b)=zi a*zi b:=by unfold zi;rw [Rat.intCast_mul,zk3]
theorem zlh {a b:Int}:zi a<=zi b↔a<=b:=by unfold zi;rw [zkP,Rat.intCast_le_intCast]
theorem zwa {a b:Int}:zi a<zi b↔a<b:=by unfold zi;rw [zt5,Rat.intCast_lt_intCast]
theorem zi_0:zi 0=0:=rfl
theorem zi_1:zi 1=1:=rfl
theorem zzB (n:Nat):zi (n:Int)=rat (n:Rat):=by unfold zi;rw [Rat.intCast_natCast]
theorem zFh (x:Re):∃k:Int,zi k<=x/\x<zi (k+1):=by
 obtain ⟨n,hn⟩:=arch (abs x)
 have h0:zi (-(n:Int))<=x:=by
  have:=zih x
  rw [zn2,zzB]
  generalize rat (n:Rat)=r at *;generalize abs x=u at *
  exact zU [r,u,x] (pn (le_of_lt (sp hn)) (sn this))
 have h1:x<zi (n:Int):=lt_of_le_of_lt (zoA x) (by rw [zzB];exact hn)
 have key:∀j:Nat,(∃k:Int,zi k<=x/\x<zi (k+1))\/zi (-(n:Int)+j)<=x:=by
  intro j
  induction j with
  | zero=>right;rw [show -(n:Int)+((0:Nat):Int)= -(n:Int) by omega];exact h0
  | succ j ih=>
   rcases ih with h|h
   ·exact .inl h
   ·rcases lt_or_le x (zi (-(n:Int)+(j:Int)+1)) with k|k
    ·exact .inl ⟨_,h,k⟩
    ·right;rw [show -(n:Int)+((j+1:Nat):Int)= -(n:Int)+(j:Int)+1 by omega];exact k
 rcases key (2*n) with h|h
 ·exact h
 ·rw [show -(n:Int)+((2*n:Nat):Int)=(n:Int) by omega] at h
  exact absurd h1 h
def qt (k:Int):Re:=zi k*hp
theorem zrC (k:Int):qt (k+1)=qt k+hp:=by
 unfold qt;rw [zpW,zi_1];generalize zi k=z;generalize hp=p;exact ring [z,p]
theorem zw8 (a b:Int):qt (a+b)=qt a+qt b:=by
 unfold qt;rw [zpW];generalize zi a=z;generalize zi b=w;generalize hp=p;exact ring [z,w,p]
theorem zw7 (a:Int):qt (-a)= - qt a:=by unfold qt;rw [zn2,neg_mul]
theorem qt_0:qt 0=0:=zero_mul _
theorem qt_1:qt 1=hp:=one_mul _
theorem zjD (x:Re) (k:Int):sin (x+qt (k+1))=cos (x+qt k)/\cos (x+qt (k+1))= - sin (x+qt k):=by
 rw [zrC,<- add_assoc];exact ⟨zt1 _,zus _⟩
theorem zKT (x:Re) (k:Int):sin (x+qt (k+4))=sin (x+qt k)/\cos (x+qt (k+4))=cos (x+qt k):=by
 have a1:=zjD x k
 have a2:=zjD x (k+1)
 have a3:=zjD x (k+1+1)
 have a4:=zjD x (k+1+1+1)
 rw [show k+4=k+1+1+1+1 by omega,a4.1,a4.2,a3.1,a3.2,a2.1,a2.2,a1.1,a1.2]
 generalize sin (x+qt k)=s;generalize cos (x+qt k)=c
 exact ⟨ring [s],ring [c]⟩
theorem zFY (x:Re) (k:Int) (n:Nat):sin (x+qt (k+4*n))=sin (x+qt k)/\cos (x+qt (k+4*n))=cos (x+qt k):=by
 induction n with
 | zero=>rw [show k+4*((0:Nat):Int)=k by omega];exact ⟨rfl,rfl⟩
 | succ n ih=>
  have:=zKT x (k+4*n)
  rw [show k+4*((n+1:Nat):Int)=k+4*(n:Int)+4 by omega,this.1,this.2];exact ih
theorem zFX (x:Re) (k m:Int):sin (x+qt (k+4*m))=sin (x+qt k)/\cos (x+qt (k+4*m))=cos (x+qt k):=by
 rcases Int.le_total 0 m with h|h
 ·have:=zFY x k m.toNat
  rwa [Int.toNat_of_nonneg h] at this
 ·have:=zFY x (k+4*m) (-m).toNat
  rw [Int.toNat_of_nonneg (by omega),show k+4*m+4 * -m=k by omega] at this
  exact ⟨this.1.symm,this.2.symm⟩
theorem zB8 (x:Re) {k:Int} (h:k%4=0):sin (x+qt k)=sin x:=by
 have:=(zFX x 0 (k/4)).1
 rwa [show 0+4*(k/4)=k by omega,qt_0,add_zero] at this
theorem zJc (x:Re) {k:Int} (h:k%4=0):cos (x+qt k)=cos x:=by
 have:=(zFX x 0 (k/4)).2
 rwa [show 0+4*(k/4)=k by omega,qt_0,add_zero] at this
theorem zB7 (x:Re) {k:Int} (h:k%4=1):sin (x+qt k)=cos x:=by
 have:=(zjD x (k-1)).1
 rw [show k-1+1=k by omega] at this
 rw [this,zJc x (by omega)]
theorem zB6 (x:Re) {k:Int} (h:k%4=2):sin (x+qt k)= - sin x:=by
 have a:=(zjD x (k-1)).1
 have b:=(zjD x (k-2)).2
 rw [show k-1+1=k by omega] at a
 rw [show k-2+1=k-1 by omega] at b
 rw [a,b,zB8 x (by omega)]
theorem zIA (x:Re) {k:Int} (h:k%4=3):sin (x+qt k)= - cos x:=by
 have a:=(zjD x (k-1)).1
 have b:=(zjD x (k-2)).2
 rw [show k-1+1=k by omega] at a
 rw [show k-2+1=k-1 by omega] at b
 rw [a,b,zB7 x (by omega)]
theorem zIz {x y:Re} {k:Int} (hk:k%4=1) (h1:qt (k-2)<=x) (h2:x<=y) (h3:y<=qt k):sin x<=sin y:=by
 have e:∀z,sin z=sin (z+qt (-(k-1))):=fun z=>(zB8 z (by omega)).symm
 rw [e x,e y]
 have hq:=zw7 (k-1)
 have q1:=zrC (k-1)
 have q2:=zrC (k-2)
 rw [show k-1+1=k by omega] at q1
 rw [show k-2+1=k-1 by omega] at q2
 rw [hq]
 generalize qt (k-1)=a at *;generalize qt (k-2)=b at *;generalize qt k=c at *
 refine zqC ?_ (zgw h2 (le_refl _)) ?_
 ·rw [q2];exact zU [x,b,hp] (sn h1)
 ·rw [q1] at h3;exact zU [y,a,hp] (sn h3)
theorem zEB {x y:Re} {k:Int} (hk:k%4=1) (h1:qt k<=x) (h2:x<=y) (h3:y<=qt (k+2)):sin y<=sin x:=by
 have e:∀z,sin z= - sin (z+qt (-(k+1))):=fun z=>by
  rw [zB6 z (by omega)];generalize sin z=s;exact ring [s]
 rw [e x,e y]
 have hq:=zw7 (k+1)
 have q1:=zrC k
 have q2:=zrC (k+1)
 rw [show k+1+1=k+2 by omega] at q2
 rw [hq]
 have:=zqC (x:=x + -qt (k+1)) (y:=y + -qt (k+1)) (by
  rw [q1];generalize qt k=a at *;exact zU [x,a,hp] (sn h1)) (zgw h2 (le_refl _)) (by
  rw [q2] at h3;generalize qt (k+1)=a at *;exact zU [y,a,hp] (sn h3))
 generalize sin (x + -qt (k+1))=s at *;generalize sin (y + -qt (k+1))=t at *
 exact zU [s,t] (sn this)
theorem zBf (x:Re):∃k:Int,k%4=1/\qt (k-2)<=x/\x<=qt (k+2):=by
 obtain ⟨m,m1,m2⟩:=zFh ((x/hp+1)*rat (1/4))
 have e:x=(x/hp)*hp:=(div_mul (ne_of_gt hp_p)).symm
 have h0:=hp_p
 refine ⟨4*m+1,by omega,?_,?_⟩
 ·unfold qt
  rw [show 4*m+1-2=4*m-1 by omega,ztT,zc8,zi_1,show zi 4=4 from rfl]
  generalize x/hp=t at *;generalize zi m=z at *
  rw [e];exact zU [t,z,hp] (mn (kn 4 (sn m1)) (le_of_lt h0))
 ·unfold qt
  rw [show 4*m+1+2=4*(m+1)-1 by omega,ztT,zc8,zi_1,show zi 4=4 from rfl]
  generalize x/hp=t at *;generalize zi (m+1)=z at *
  rw [e];exact zU [t,z,hp] (mn (kn 4 (le_of_lt (sp m2))) (le_of_lt h0))
theorem zB5 {a b x:Re} (h1:a<=x) (h2:x<=b):sin x<=sin a\/sin x<=sin b\/∃k:Int,k%4=1/\a<=qt k/\qt k<=b:=by
 obtain ⟨k,hk,k1,k2⟩:=zBf x
 rcases le_total x (qt k) with l|l
 ·rcases le_total (qt k) b with m|m
  ·exact .inr (.inr ⟨k,hk,le_trans h1 l,m⟩)
  ·exact .inr (.inl (zIz hk k1 h2 m))
 ·rcases le_total a (qt k) with m|m
  ·exact .inr (.inr ⟨k,hk,m,le_trans l h2⟩)
  ·exact .inl (zEB hk m h1 k2)
theorem zA6 {a b x:Re} (h1:a<=x) (h2:x<=b):sin a<=sin x\/sin b<=sin x\/∃k:Int,k%4=3/\a<=qt k/\qt k<=b:=by
 have e:∀z,sin z= - sin (z+qt 2):=fun z=>by
  rw [zB6 z (by decide)];generalize sin z=s;exact ring [s]
 rcases zB5 (a:=a+qt 2) (b:=b+qt 2) (x:=x+qt 2) (zgw h1 (le_refl _)) (zgw h2 (le_refl _)) with h|h|⟨k,hk,k1,k2⟩
 ·left;rw [e a,e x];generalize sin (a+qt 2)=s at *;generalize sin (x+qt 2)=t at *;exact zU [s,t] (sn h)
 ·right;left;rw [e b,e x];generalize sin (b+qt 2)=s at *;generalize sin (x+qt 2)=t at *;exact zU [s,t] (sn h)
 ·right;right
  refine ⟨k-2,by omega,?_,?_⟩
  ·have:=zw8 (k-2) 2
   rw [show k-2+2=k by omega] at this
   rw [this] at k1
   generalize qt (k-2)=u at *;generalize qt 2=v at *
   exact zU [a,u,v] (sn k1)
  ·have:=zw8 (k-2) 2
   rw [show k-2+2=k by omega] at this
   rw [this] at k2
   generalize qt (k-2)=u at *;generalize qt 2=v at *
   exact zU [b,u,v] (sn k2)
theorem zCD {y:Re} (h:y≠0): -y≠0:=fun e=>h (by have k:y= - -y:=ring [y];rw [k,e];exact ring [])
theorem zHU (x y:Re) (h:y≠0): -x / -y=x/y:=by
 refine zgN (z:= -y) (zCD h) ?_
 rw [div_mul (zCD h)]
 have:=div_mul (x:=x) h
 generalize x/y=q at *
 exact zj9 [x,y,q] this
theorem zIO {y:Re} (h:y<0):0 < -y:=zfU [y] (sp h)
end Go.Proofs.YtkenfaengphiiaaGreatDoor.An
namespace Go.Proofs.YtkenfaengphiiaaGreatDoor.An
theorem zCa (x:Re):sin (2*x)=2*(sin x*cos x):=by
 rw [show 2*x=x+x from ring [x],zyp];generalize sin x=s;generalize cos x=c;exact ring [s,c]
theorem zH2 (x:Re):cos (2*x)=1-2*(sin x*sin x):=by
 have:=zu6 x
 rw [show 2*x=x+x from ring [x],zzh];generalize sin x=s at *;generalize cos x=c at *
 exact zj9 [s,c] this
theorem zqO:atan 1=hp*rat (1/2):=by
 have h0:=hp_p
 refine (zhh (zfU [hp] (kp (3/2) h0)) (zfU [hp] (kp (1/2) h0)) ?_).symm
 rw [one_mul]
 have:=zng (hp*rat (1/2))
 rw [<- this];congr 1;exact ring [hp]
theorem zxN (t:Re):atan t=2*atan (t/(1+sqrt (1+t*t))):=by
 have q0:0<=1+t*t:=pn (qn 1) (sqn t)
 have w0:=zrb (1+t*t)
 have w1:=zo7 q0
 generalize sqrt (1+t*t)=w at *
 have d0:0<1+w:=ppn (qp 1) w0
 have e1:t/(1+w)*(1+w)=t:=div_mul (ne_of_gt d0)
 generalize t/(1+w)=u at *
 -- u is between -1 and 1
 have hu:u*u<=1*1:=by
  refine zdM (z:=(1+w)*(1+w)) (mp d0 d0) ?_
  rw [show u*u*((1+w)*(1+w))=(u*(1+w))*(u*(1+w)) from ring [u,w],e1]
  have:t*t=w*w-1:=by rw [w1];exact ring [t]
  rw [this];exact zU [w] (pn (qn 2) (kn 2 w0))
 have au:abs u<=1:=zob (qn 1) (by rw [zsg];exact hu)
 obtain ⟨u1,u2⟩:=zdT au
 have b1:=zgO u1
 have b2:=zgO u2
 rw [zqP,zqO] at b1
 rw [zqO] at b2
 have hc:=zjI u
 have hs:=zkc u
 have sq:=zzo u
 have key:sin (2*atan u)=t*cos (2*atan u):=by
  rw [zCa,zH2,hs]
  generalize cos (atan u)=c at *
  have e2:t*(1-u*u)=2*u:=by
   refine zgN (z:=(1+w)*(1+w)) (ne_of_gt (mp d0 d0)) ?_
   rw [show t*(1-u*u)*((1+w)*(1+w))=t*((1+w)*(1+w)-(u*(1+w))*(u*(1+w))) from ring [t,u,w],e1,
    show 2*u*((1+w)*(1+w))=2*(u*(1+w))*(1+w) from ring [u,w],e1]
   exact zj9 [t,w] (congrArg (fun z=>t*z) w1:t*(w*w)=t*(1+t*t))
  refine zb2 ?_
  rw [show 2*(u*c*c)-t*(1-2*(u*c*(u*c)))=2*u*(c*c)-t*((1+u*u)*(c*c)-2*(u*u)*(c*c))+t*((1+u*u)*(c*c)-1) from ring [u,c,t],sq,
   show 2*u*(c*c)-t*(1-2*(u*u)*(c*c))+t*(1-1)=2*u*(c*c)-t*1+2*(t*(u*u))*(c*c) from ring [u,c,t],<- sq]
  exact zj9 [u,c,t] (congrArg (fun z=> -(c*c)*z) e2: -(c*c)*(t*(1-u*u))= -(c*c)*(2*u))
 have nz:∀a,sin a=t*cos a->¬cos a=0:=fun a ha hb=>by
  have:=zu6 a
  rw [ha,hb,mul_zero] at this
  rw [show (0:Re)*0+0*0=0 from ring []] at this
  exact absurd (this▸(qp 1:(0:Re)<1)) (lt_irrefl _)
 have nk:=nz _ key
 refine (zhh ?_ ?_ key).symm
 ·rcases le_iff.1 (zU [atan u,hp] (kn 2 (sn b1)): -hp<=2*atan u) with k|k
  ·exact k
  ·rw [<- k,zl1,zkb] at nk;exact absurd rfl nk
 ·rcases le_iff.1 (zU [atan u,hp] (kn 2 (sn b2)):2*atan u<=hp) with k|k
  ·exact k
  ·rw [k,zkb] at nk;exact absurd rfl nk
def asin (x:Re):Re:=2*atan (x/(1+sqrt (1-x*x)))
theorem zqQ {x:Re} (h:abs x<=1):sin (asin x)=x /\ -hp<=asin x/\asin x<=hp:=by
 have hx:x*x<=1:=by have:=zeD h h;rw [zbM (sqn x)] at this;exact le_trans this (zU [] (le_refl 0))
 have q0:0<=1-x*x:=sn hx
 have w0:=zrb (1-x*x)
 have w1:=zo7 q0
 unfold asin
 generalize sqrt (1-x*x)=w at *
 have d0:0<1+w:=ppn (qp 1) w0
 have e1:x/(1+w)*(1+w)=x:=div_mul (ne_of_gt d0)
 generalize x/(1+w)=u at *
 have hu:u*u<=1*1:=by
  refine zdM (z:=(1+w)*(1+w)) (mp d0 d0) ?_
  rw [show u*u*((1+w)*(1+w))=(u*(1+w))*(u*(1+w)) from ring [u,w],e1]
  have:x*x=1-w*w:=by rw [w1];exact ring [x]
  rw [this];exact zU [w] (pn (kn 2 w0) (kn 2 (sqn w)))
 have au:abs u<=1:=zob (qn 1) (by rw [zsg];exact hu)
 obtain ⟨u1,u2⟩:=zdT au
 have b1:=zgO u1
 have b2:=zgO u2
 rw [zqP,zqO] at b1
 rw [zqO] at b2
 have hs:=zkc u
 have sq:=zzo u
 refine ⟨?_,zU [atan u,hp] (kn 2 (sn b1)),zU [atan u,hp] (kn 2 (sn b2))⟩
 rw [zCa,hs]
 generalize cos (atan u)=c at *
 have e3:x*(1+u*u)=2*u:=by
  refine zgN (z:=(1+w)*(1+w)) (ne_of_gt (mp d0 d0)) ?_
  rw [show x*(1+u*u)*((1+w)*(1+w))=x*((1+w)*(1+w)+(u*(1+w))*(u*(1+w))) from ring [x,u,w],e1,
   show 2*u*((1+w)*(1+w))=2*(u*(1+w))*(1+w) from ring [u,w],e1]
  exact zj9 [x,w] (congrArg (fun z=>x*z) w1:x*(w*w)=x*(1-x*x))
 have e4:x*((1+u*u)*(c*c))=x*1:=by rw [sq]
 refine (zj9 [x,u,c] (congrArg (fun z=> -(c*c)*z) e3: -(c*c)*(x*(1+u*u))= -(c*c)*(2*u)):2*(u*c*c)=x*((1+u*u)*(c*c))).trans (e4.trans (mul_one x))
theorem zD6 {x y:Re} (hx:abs x<=1) (hy:abs y<=1) (h:x<=y):asin x<=asin y:=by
 have a:=zqQ hx
 have b:=zqQ hy
 rcases lt_or_le (asin y) (asin x) with k|k
 ·have:=zqC b.2.1 (le_of_lt k) a.2.2
  rw [a.1,b.1] at this
  have e:=le_antisymm h this
  rw [e] at k
  exact absurd k (lt_irrefl _)
 ·exact k
end Go.Proofs.YtkenfaengphiiaaGreatDoor.An
namespace Go.Proofs.YtkenfaengphiiaaGreatDoor.An
theorem zGc {y:Re} (h:0<y):∃x,exp x=y:=by
 have hi:=zy3 h
 have h0: -y⁻¹<=y:=zU [y⁻¹,y] (pn (le_of_lt hi) (le_of_lt h))
 obtain ⟨L,l0,hL⟩:=(zy9 (-y⁻¹) y).lip h0
 have m:y*y⁻¹=1:=zjh (ne_of_gt h)
 obtain ⟨c,_,_,c3⟩:=zuB (f:=fun x=>exp x-y) h0 l0 (fun u v a b c d=>by
  show abs (exp u-y-(exp v-y))<=_
  rw [show exp u-y-(exp v-y)=exp u-exp v from by generalize exp u=p;generalize exp v=q;exact ring [p,q,y]]
  exact hL u v a b c d) (by
  show exp (-y⁻¹)-y<=0
  have e1:=zr1 y⁻¹
  have e2:=zAv (le_of_lt hi)
  have e3:=le_of_lt (znS (-y⁻¹))
  generalize y⁻¹=i at *;generalize exp (-i)=E at *;generalize exp i=F at *
  have:E<=y:=zdM hi (by rw [m,<- e1];exact zU [E,F,i] (pn (mn e3 (sn e2)) e3))
  exact zU [E,y] (sn this)) (by
  show 0<=exp y-y
  have:=zAv (le_of_lt h)
  generalize exp y=E at *
  exact zU [E,y] (pn (sn this) (qn 1)))
 exact ⟨c,zb2 c3⟩
open Classical in
def log (y:Re):Re:=if h:0<y then Classical.choose (zGc h) else 0
theorem zj8 {y:Re} (h:0<y):exp (log y)=y:=by
 rw [log,dif_pos h];exact Classical.choose_spec (zGc h)
theorem zCX (x:Re):log (exp x)=x:=zy8 (zj8 (znS x))
theorem zpx {x y:Re} (hx:0<x) (hy:0<y):log (x*y)=log x+log y:=
 zy8 (by rw [zr2,zj8 hx,zj8 hy,zj8 (mp hx hy)])
theorem zK3:(0:Re)<1:=qp 1
theorem zGB:(0:Re)<2:=qp 2
theorem zCV:log 1=0:=zy8 (by rw [zj8 zK3,zlW])
theorem zoy {x y:Re} (hx:0<x) (h:x<=y):log x<=log y:=by
 rcases lt_or_le (log y) (log x) with k|k
 ·have:=zAu k
  rw [zj8 hx,zj8 (lt_of_lt_of_le hx h)] at this
  exact absurd h (not_le.2 this)
 ·exact k
theorem zHr {x y:Re} (hx:0<x) (hy:0<y):log (x/y)=log x-log y:=by
 have:=zpx (zBv hx hy) hy
 rw [div_mul (ne_of_gt hy)] at this
 generalize log (x/y)=a at *;generalize log x=b at *;generalize log y=c at *
 exact zj9 [a,b,c] this.symm
theorem zHH (d:Re):1+d<=exp d:=by
 rcases le_total 0 d with h|h
 ·exact zAv h
 ·have h0:0 <= -d:=zmh h
  have k: -exp (- -d) - -exp (-0) <= -d-0:=Der.le ((Der.flip (a:=0) (b:= -d) (zy9 (- -d) (-0))).neg) (Der.id 0 (-d)) h0 (fun z z1 _=>by
   show - -exp (-z)<=1
   have:=zoE (x:= -z) (y:=0) (zU [z] z1)
   rw [zlW] at this
   generalize exp (-z)=w at *
   exact zU [w] (sn this))
  rw [show - -d=d from ring [d],show (-0:Re)=0 from ring [],zlW] at k
  generalize exp d=w at *
  exact zU [w,d] (sn k)
theorem zxn {u v:Re} (hu:0<u) (hv:0<v):(log v-log u)*u<=v-u:=by
 have e:exp (log v-log u)*exp (log u)=exp (log v):=by
  rw [<- zr2,show log v-log u+log u=log v from by generalize log v=p;generalize log u=q;exact ring [p,q]]
 rw [zj8 hu,zj8 hv] at e
 have k:=zHH (log v-log u)
 generalize log v-log u=d at *
 generalize exp d=w at *
 exact zU [d,u,v] (zHJ (show v-u-d*u=u*(w-(1+d)) by rw [<- e];exact ring [u,w,d]) (mn (le_of_lt hu) (sn k)))
theorem zAp {a x:Re} (ha:0<a) (h:a<=x):x⁻¹<=a⁻¹:=by
 have hx:=lt_of_lt_of_le ha h
 refine zdM hx ?_
 have e1:=zjh (ne_of_gt hx)
 have e2:=zjh (ne_of_gt ha)
 have i:=zy3 ha
 rw [mul_comm,e1,<- e2]
 generalize a⁻¹=j at *
 exact zU [a,x,j] (mn (le_of_lt i) (sn h))
theorem zIU {a b:Re} (ha:0<a):Der a b log (fun x=>x⁻¹):=by
 have ia:=zy3 ha
 refine ⟨a⁻¹*a⁻¹,mn (le_of_lt ia) (le_of_lt ia),fun x y x1 x2 y1 y2=>?_⟩
 show abs (log y-log x-x⁻¹*(y-x))<=_
 have hx:=lt_of_lt_of_le ha x1
 have hy:=lt_of_lt_of_le ha y1
 have k1:=zxn hx hy
 have k2:=zxn hy hx
 have ix:=le_of_lt (zy3 hx)
 have iy:=le_of_lt (zy3 hy)
 have e1:=zjh (ne_of_gt hx)
 have e2:=zjh (ne_of_gt hy)
 have lx:=zAp ha x1
 have ly:=zAp ha y1
 generalize x⁻¹=i at *;generalize y⁻¹=j at *;generalize a⁻¹=A at *
 generalize log x=p at *;generalize log y=q at *
 have u1:q-p<=(y-x)*i:=by
  have:=mn ix (sn k1)
  rw [show i*(y-x-(q-p)*x)=(y-x)*i-(q-p)*(x*i) from ring [i,x,y,p,q],e1,mul_one] at this
  exact zp4.2 this
 have u2:(y-x)*j<=q-p:=by
  have:=mn iy (sn k2)
  rw [show j*(x-y-(p-q)*y)=(q-p)*(y*j)-(y-x)*j from ring [j,x,y,p,q],e2,mul_one] at this
  exact zp4.2 this
 have e3:(y-x)*(i*j)=i-j:=by
  rw [show (y-x)*(i*j)=(y*j)*i-(x*i)*j from ring [x,y,i,j],e1,e2,one_mul,one_mul]
 have e4:(y-x)*(i-j)=(i*j)*((y-x)*(y-x)):=by rw [<- e3];exact ring [x,y,i,j]
 have hA:=An.zxk ix lx iy ly
 refine zeT ?_ ?_
 ·exact zU [p,q,i,x,y,A] (zHJ (show q-p-i*(y-x) - -(A*A*((y-x)*(y-x)))=(q-p-(y-x)*j)+(A*A-i*j)*((y-x)*(y-x))+(i*j*((y-x)*(y-x))-(y-x)*(i-j)) from ring [p,q,i,j,x,y,A]) (pn (pn (sn u2) (mn (sn hA) (sqn (y-x)))) (sn (le_of_eq e4))))
 ·exact zU [p,q,i,x,y,A] (pn (sn u1) (mn (mn (le_of_lt ia) (le_of_lt ia)) (sqn (y-x))))
def ath (x:Re):Re:=(log (1+x)-log (1-x))*rat (1/2)
theorem zIa (x:Re):ath (-x)= - ath x:=by
 unfold ath
 rw [show 1 + -x=1-x from rfl,show 1 - -x=1+x from ring [x]]
 generalize log (1-x)=p;generalize log (1+x)=q
 exact ring [p,q]
theorem zAM:ath 0=0:=by
 unfold ath
 rw [show (1:Re)+0=1 from ring [],show (1:Re)-0=1 from ring []]
 generalize log 1=p
 exact ring [p]
theorem zJp {m:Re} (hm:m<1):Der (-m) m ath (fun x=>((1+x)⁻¹+(1-x)⁻¹)*rat (1/2)):=by
 have h1:Der (-m) m (fun x=>log (1+x)) (fun x=>(1+x)⁻¹):=(zIU (a:=1 + -m) (b:=1+m) (sp hm)).shift 1
 have h2:Der (-m) (- -m) (fun x=>log (1+x)) (fun x=>(1+x)⁻¹):=(zIU (a:=1 + -m) (b:=1 + - -m) (sp hm)).shift 1
 have h3:Der (-m) m (fun x=>log (1 + -x)) (fun x=> -(1 + -x)⁻¹):=by
  have e: -m= -m:=rfl
  exact Der.flip (a:= -m) (b:=m) (f:=fun x=>log (1+x)) (g:=fun x=>(1+x)⁻¹) h2
 refine ((h1.add h3.neg).smul (rat (1/2))).congr (fun x _ _=>?_) (fun x _ _=>?_)
 ·show rat (1/2)*(log (1+x) + - log (1-x))=(log (1+x)-log (1-x))*rat (1/2)
  generalize log (1-x)=p;generalize log (1+x)=q
  exact ring [p,q]
 ·show rat (1/2)*((1+x)⁻¹ + - -(1-x)⁻¹)=((1+x)⁻¹+(1-x)⁻¹)*rat (1/2)
  generalize (1-x)⁻¹=p;generalize (1+x)⁻¹=q
  exact ring [p,q]
theorem zIf (s:Rat) (x:Re) (n:Nat):aD s x (n+1)=aD s x n+rat (s^n)*x^(2*n):=rfl
theorem zIe (s:Rat) (x:Re) (n:Nat):aP s x (n+1)=aP s x n+rat (s^n*(1/((2*n+1:Nat):Rat)))*x^(2*n+1):=rfl
theorem r16:rat (1^6)=1:=(by decide +kernel:((1:Rat)^6)=1)▸rfl
theorem r13:((1:Rat)^6*(1/((2*6+1:Nat):Rat)))=1/13:=by decide +kernel
theorem zDY {z:Re} (z0:0<=z) (hz:z<=rat (1/5)):aD 1 z 6<=((1+z)⁻¹+(1-z)⁻¹)*rat (1/2)/\((1+z)⁻¹+(1-z)⁻¹)*rat (1/2)<=rat (-1/24)*aD 1 z 6+rat (25/24)*aD 1 z 7:=by
 have hp:0<1+z:=ppn (qp 1) z0
 have hq:0<1-z:=zfU [z] (ppn (qp (4/5)) (sn hz))
 have e1:=zjh (ne_of_gt hp)
 have e2:=zjh (ne_of_gt hq)
 have s:=zGo 1 z 6
 rw [r16] at s
 have w:=zIf 1 z 6
 rw [r16] at w
 have wn:0<=z^(2*6):=by
  rw [show z^(2*6)=(z^6)*(z^6) from ring [z]];exact sqn _
 have hz2:z*z<=rat (1/25):=zU [z] (pn (mn z0 (sn hz)) (kn (1/5) (sn hz)))
 rw [w]
 generalize z^(2*6)=W at *
 generalize aD 1 z 6=D at *
 generalize (1+z)⁻¹=i at *;generalize (1-z)⁻¹=j at *
 have e3:(1-rat 1*(z*z))*((i+j)*rat (1/2))=1:=by
  rw [show (1-rat 1*(z*z))*((i+j)*rat (1/2))=((1+z)*i*(1-z)+(1-z)*j*(1+z))*rat (1/2) from ring [z,i,j],e1,e2]
  exact ring [z]
 have hpq:0<1-rat 1*(z*z):=zfU [z] (ppn (qp (24/25)) (sn hz2))
 generalize (i+j)*rat (1/2)=G at *
 have e5:(G-D)*(1-rat 1*(z*z))=W:=by
  rw [show (G-D)*(1-rat 1*(z*z))=(1-rat 1*(z*z))*G-(1-rat 1*(z*z))*D from ring [G,D,z],e3,s];exact ring [W]
 have f1:0<=G-D:=zdM hpq (by rw [zero_mul,e5];exact wn)
 refine ⟨zp4.2 f1,?_⟩
 have f2:(G-D)*rat (24/25)<=W:=by
  rw [<- e5];generalize G-D=H at *;exact zU [H,z] (mn f1 (sn hz2))
 exact zU [G,D,W] (kn (25/24) (sn f2))
theorem zJn {x:Re} (h0:0<=x) (h:x<=rat (1/5)):aP 1 x 6<=ath x:=by
 have d1:=(zJp (m:=rat (1/5)) (zz5 (1/5) 1)).sub (c:=0) (d:=x) (zU [] (qn (1/5))) h
 have l1:=Der.le (aP_d 1 h0 6) d1 h0 (fun z z0 z1=>(zDY z0 (le_trans z1 h)).1)
 have l2:aP 1 x 6-aP 1 0 6<=ath x-ath 0:=l1
 rw [zAM,zvW] at l2
 generalize aP 1 x 6=p at *;generalize ath x=q at *
 exact zU [p,q] (sn l2)
theorem zJo {x:Re} (h0:0<=x) (h:x<=rat (1/5)):ath x<=rat (-1/24)*aP 1 x 6+rat (25/24)*aP 1 x 7:=by
 have d1:=(zJp (m:=rat (1/5)) (zz5 (1/5) 1)).sub (c:=0) (d:=x) (zU [] (qn (1/5))) h
 have d2:=((aP_d 1 h0 6).smul (rat (-1/24))).add ((aP_d 1 h0 7).smul (rat (25/24)))
 have l1:=Der.le d1 d2 h0 (fun z z0 z1=>(zDY z0 (le_trans z1 h)).2)
 have l2:ath x-ath 0<=(rat (-1/24)*aP 1 x 6+rat (25/24)*aP 1 x 7)-(rat (-1/24)*aP 1 0 6+rat (25/24)*aP 1 0 7):=l1
 rw [zAM,zvW,zvW] at l2
 generalize aP 1 x 6=p at *;generalize aP 1 x 7=r at *;generalize ath x=q at *
 exact zU [p,q,r] (sn l2)
theorem zxL {x:Re} (h0:0<=x) (h:x<=rat (1/5)):0<=ath x-aP 1 x 6/\ath x-aP 1 x 6<=rat (1/8589934592):=by
 have l1:=zJn h0 h
 have l2:=zJo h0 h
 have e7:aP 1 x 7=aP 1 x 6+rat (1/13)*x^13:=by
  have:=zIe 1 x 6
  rw [r13] at this
  exact this
 rw [e7] at l2
 have b:=zCp (x:=x) (M:=rat (1/5)) (by rw [zbM h0];exact h) 13
 have b2:=le_trans (zoA _) b
 have b3:rat (1/5)^13<=rat (1/1220703125):=zU [] (le_refl 0)
 have b4:=le_trans b2 b3
 generalize aP 1 x 6=p at *;generalize ath x=q at *
 generalize x^13=w at *
 refine ⟨zU [p,q] (sn l1),?_⟩
 exact zU [p,q,w] (pn (pn (sn l2) (kn (25/312) (sn b4))) (qn (1/8589934592-25/312/1220703125)))
def aH (x:Re):Re:=x*(rat (1/1)+x*x*(rat (1/3)+x*x*(rat (1/5)+x*x*(rat (1/7)+x*x*(rat (1/9)+x*x*rat (1/11))))))
theorem zJu (x:Re):aP 1 x 6=aH x:=by unfold aH;exact ring [x]
theorem zJt (x:Re):aH (-x)= - aH x:=by unfold aH;exact ring [x]
theorem zFE {x:Re} (h:abs x<=rat (1/5)):abs (ath x-aH x)<=rat (1/8589934592):=by
 rcases le_total 0 x with k|k
 ·rw [zbM k] at h
  obtain ⟨a,b⟩:=zxL k h
  rw [zJu] at a b
  rw [zbM a];exact b
 ·rw [zgi k] at h
  obtain ⟨a,b⟩:=zxL (zmh k) h
  rw [zJu,zJt,zIa] at a b
  rw [<- An.abs_neg]
  generalize ath x=p at *;generalize aH x=q at *
  rw [show -(p-q)= -p - -q from ring [p,q],zbM a];exact b
theorem zE5 {y z:Re} (hy:0<y) (e:z*(y+1)=y-1) (h:abs z<=rat (1/5)):abs (log y-2*z*(rat (1/1)+z*z*(rat (1/3)+z*z*(rat (1/5)+z*z*(rat (1/7)+z*z*(rat (1/9)+z*z*rat (1/11)))))))<=rat (1/4294967296):=by
 have k:=zFE h
 have hq:0<1-z:=zfU [z] (ppn (qp (4/5)) (sn (zdT h).2))
 have e2:1+z=y*(1-z):=zj9 [z,y] e
 have e3:ath z=log y*rat (1/2):=by
  unfold ath
  rw [e2,zpx hy hq]
  generalize log y=p;generalize log (1-z)=q
  exact ring [p,q]
 rw [e3] at k
 obtain ⟨k1,k2⟩:=zdT k
 unfold aH at k1 k2
 generalize log y=p at *
 generalize rat (1/1)+z*z*(rat (1/3)+z*z*(rat (1/5)+z*z*(rat (1/7)+z*z*(rat (1/9)+z*z*rat (1/11)))))=w at *
 exact zeT (zU [p,z,w] (kn 2 (sn k1))) (zU [p,z,w] (kn 2 (sn k2)))
theorem zAt {q:Rat} (h0:0<=q) (h2:q<=2):abs (exp (rat q)-rat (zmN one q 40))<=rat (2*monQ 2 40):=by
 have:=zoc zxc (x:=rat q) (M:=rat 2) (i:=40) (by rw [zbM (zwH h0)];exact zkP.2 h2) (zj1 (2*2) ((40+1:Nat):Rat))
 rw [zzW,zpt] at this
 exact this
theorem zHt {q:Rat} (h0:0<=q) (h2:q<=2) (h:decide (zmN one q 40+2*monQ 2 40<=2)=true):rat q<=log 2:=by
 have k:=(zdT (zAt h0 h2)).2
 have h':rat (zmN one q 40)+rat (2*monQ 2 40)<=2:=by rw [<- zk4];exact zkP.2 (of_decide_eq_true h)
 rw [<- zCX (rat q)]
 refine zoy (znS _) ?_
 generalize exp (rat q)=E at *;generalize rat (zmN one q 40)=p at *;generalize rat (2*monQ 2 40)=t at *
 exact zU [E,p,t] (pn (sn k) (sn h'))
theorem zHs {q:Rat} (h0:0<=q) (h2:q<=2) (h:decide (2+2*monQ 2 40<=zmN one q 40)=true):log 2<=rat q:=by
 have k:=(zdT (zAt h0 h2)).1
 have h':2+rat (2*monQ 2 40)<=rat (zmN one q 40):=by
  rw [show (2:Re)+rat (2*monQ 2 40)=rat (2+2*monQ 2 40) from (zk4 _ _).symm];exact zkP.2 (of_decide_eq_true h)
 rw [<- zCX (rat q)]
 refine zoy (qp 2) ?_
 generalize exp (rat q)=E at *;generalize rat (zmN one q 40)=p at *;generalize rat (2*monQ 2 40)=t at *
 exact zU [E,p,t] (pn (sn k) (sn h'))
theorem zC2:rat (1598288580650331957/2305843009213693952)<=log 2:=zHt (by decide +kernel) (by decide +kernel) (by kernel_rfl)
theorem zyY:log 2<=rat (1598288580650331958/2305843009213693952):=zHs (by decide +kernel) (by decide +kernel) (by kernel_rfl)
theorem zt6 (k:Nat):0<zi (2^k):=by rw [<- zi_0];exact zwa.2 (Int.pow_pos (by decide))
theorem zAi (k:Nat):log (zi (2^k))=zi k*log 2:=by
 induction k with
 | zero=>
  rw [show zi (2^0)=1 from rfl,zCV,show zi ((0:Nat):Int)=0 from rfl,zero_mul]
 | succ k ih=>
  rw [show ((2:Int)^(k+1))=2^k*2 from Int.pow_succ ..,zc8,show zi 2=2 from rfl,zpx (zt6 k) zGB,ih,show zi ((k+1:Nat):Int)=zi k+1 from zpW k 1]
  generalize zi k=a;generalize log 2=b
  exact ring [a,b]
theorem ab1 {x:Re} (h1: -1<=x) (h2:x<=1):abs x<=1:=zeT h1 h2
theorem zD7 {x:Re} (h1: -1<=x) (h2:x<=1): -hp<=asin x/\asin x<=hp:=(zqQ (ab1 h1 h2)).2
theorem zD5 {x y:Re} (h1: -1<=x) (h:x<=y) (h2:y<=1):asin x<=asin y:=zD6 (ab1 h1 (le_trans h h2)) (ab1 (le_trans h1 h) h2) h
theorem zEC {x:Re} (h1: -1<=x) (h2:x<=1):sin (asin x)=x:=(zqQ (ab1 h1 h2)).1
theorem zFH {a:Re} (h1: -hp<=a) (h2:a<=hp):asin (sin a)=a:=by
 have b:=zD7 (zqD a) (zrd a)
 exact zGM b.1 b.2 h1 h2 (zEC (zqD a) (zrd a))
end Go.Proofs.YtkenfaengphiiaaGreatDoor.An
