/- The law FnOmega gives true, whatever comes in; each argument reads behind the call as it read before. No conditions. (One of the texts of its proof, put together by a program of this session.) -/
import Derived.KernelRfl
set_option linter.unusedSectionVars false
set_option linter.unusedSimpArgs false
set_option linter.unusedVariables false
noncomputable section
namespace Go.Proofs.YtaoakfodkoifoaaGreat.An
def Cau (s:Nat->Rat):Prop:=∀e:Rat,0<e->∃N,∀m n,N<=m->N<=n->s m-s n<e
def Nul (s:Nat->Rat):Prop:=∀e:Rat,0<e->∃N,∀n,N<=n-> -e<s n/\s n<e
def Pos (s:Nat->Rat):Prop:=∃e:Rat,0<e/\∃N,∀n,N<=n->e<s n
theorem zh6 {e:Rat} (h:0<e):0<e/2:=by grind
theorem div_pos {a b:Rat} (h:0<a) (k:0<b):0<a/b:=by
 rw [Rat.div_def];exact Rat.mul_pos h (Rat.inv_pos.2 k)
theorem zgA {a x B d:Rat} (h1: -B<a) (h2:a<B) (h3: -d<x) (h4:x<d): -(B*d)<a*x/\a*x<B*d:=by
 have p1:0<(B-a)*(d+x):=Rat.mul_pos (by grind) (by grind)
 have p2:0<(B+a)*(d-x):=Rat.mul_pos (by grind) (by grind)
 have p3:0<(B-a)*(d-x):=Rat.mul_pos (by grind) (by grind)
 have p4:0<(B+a)*(d+x):=Rat.mul_pos (by grind) (by grind)
 constructor<;>grind
theorem zHg {a x B d:Rat} (h1: -B<a) (h2:a<B) (h3: -d<x) (h4:x<d): -(B*d)<x*a/\x*a<B*d:=by
 have:=zgA h1 h2 h3 h4;rwa [Rat.mul_comm x a]
theorem zOg (s:Nat->Rat) (N:Nat):∃B:Rat,0<B/\∀n,n<N-> -B<s n/\s n<B:=by
 induction N with
 | zero=>exact ⟨1,by decide,fun n h=>absurd h (Nat.not_lt_zero n)⟩
 | succ N ih=>
  obtain ⟨B,h0,h⟩:=ih
  have key:∃C:Rat,0<C/\B<=C /\ -C<s N/\s N<C:=by
   rcases Rat.le_total (a:=0) (b:=s N) with k|k
   ·exact ⟨B+s N,by grind,by grind,by grind,by grind⟩
   ·exact ⟨B-s N,by grind,by grind,by grind,by grind⟩
  obtain ⟨C,c0,cB,c1,c2⟩:=key
  refine ⟨C,c0,fun n hn=>?_⟩
  rcases Nat.lt_succ_iff_lt_or_eq.1 hn with k|k
  ·have:=h n k;grind
  ·subst k;exact ⟨c1,c2⟩
theorem Cau.bdd {s:Nat->Rat} (h:Cau s):∃B:Rat,0<B/\∀n,-B<s n/\s n<B:=by
 obtain ⟨N,hN⟩:=h 1 (by decide)
 obtain ⟨B,h0,hB⟩:=zOg s (N+1)
 refine ⟨B+1,by grind,fun n=>?_⟩
 have b:=hB N (by omega)
 rcases Nat.lt_or_ge n (N+1) with k|k
 ·have:=hB n k;grind
 ·have p:=hN n N (by omega) (by omega)
  have q:=hN N n (by omega) (by omega)
  grind
theorem Cau.add {s t:Nat->Rat} (h:Cau s) (k:Cau t):Cau (fun n=>s n+t n):=by
 intro e he
 obtain ⟨N,hN⟩:=h (e/2) (zh6 he)
 obtain ⟨M,hM⟩:=k (e/2) (zh6 he)
 refine ⟨max N M,fun m n hm hn=>?_⟩
 have a:=hN m n (by omega) (by omega)
 have b:=hM m n (by omega) (by omega)
 show (s m+t m)-(s n+t n)<e
 grind
theorem Cau.neg {s:Nat->Rat} (h:Cau s):Cau (fun n=> - s n):=by
 intro e he
 obtain ⟨N,hN⟩:=h e he
 refine ⟨N,fun m n hm hn=>?_⟩
 have a:=hN n m hn hm
 show-s m - - s n<e
 grind
theorem Cau.mul {s t:Nat->Rat} (h:Cau s) (k:Cau t):Cau (fun n=>s n*t n):=by
 intro e he
 obtain ⟨B,b0,hB⟩:=h.bdd
 obtain ⟨C,c0,hC⟩:=k.bdd
 obtain ⟨N,hN⟩:=h (e/2/C) (div_pos (zh6 he) c0)
 obtain ⟨M,hM⟩:=k (e/2/B) (div_pos (zh6 he) b0)
 refine ⟨max N M,fun m n hm hn=>?_⟩
 have a1:=hN m n (by omega) (by omega)
 have a2:=hN n m (by omega) (by omega)
 have b1:=hM m n (by omega) (by omega)
 have b2:=hM n m (by omega) (by omega)
 have x:=(zgA (hB m).1 (hB m).2 (x:=t m-t n) (d:=e/2/B) (by grind) b1).2
 have y:=(zgA (hC n).1 (hC n).2 (x:=s m-s n) (d:=e/2/C) (by grind) a1).2
 have z1:B*(e/2/B)=e/2:=by rw [Rat.mul_comm];exact Rat.div_mul_cancel (by grind)
 have z2:C*(e/2/C)=e/2:=by rw [Rat.mul_comm];exact Rat.div_mul_cancel (by grind)
 show s m*t m-s n*t n<e
 grind
theorem Cau.const (q:Rat):Cau (fun _=>q):=fun e he=>⟨0,fun m n _ _=>by show q-q<e;grind⟩
theorem Nul.add {s t:Nat->Rat} (h:Nul s) (k:Nul t):Nul (fun n=>s n+t n):=by
 intro e he
 obtain ⟨N,hN⟩:=h (e/2) (zh6 he)
 obtain ⟨M,hM⟩:=k (e/2) (zh6 he)
 refine ⟨max N M,fun n hn=>?_⟩
 have a:=hN n (by omega)
 have b:=hM n (by omega)
 show -e<s n+t n/\s n+t n<e
 grind
theorem Nul.neg {s:Nat->Rat} (h:Nul s):Nul (fun n=> - s n):=by
 intro e he
 obtain ⟨N,hN⟩:=h e he
 refine ⟨N,fun n hn=>?_⟩
 have a:=hN n hn
 show -e < - s n /\ - s n<e
 grind
theorem Nul.mul {s t:Nat->Rat} (h:Nul s) (k:Cau t):Nul (fun n=>s n*t n):=by
 intro e he
 obtain ⟨B,b0,hB⟩:=k.bdd
 obtain ⟨N,hN⟩:=h (e/B) (div_pos he b0)
 refine ⟨N,fun n hn=>?_⟩
 have a:=hN n hn
 have x:=zHg (hB n).1 (hB n).2 a.1 a.2
 have z1:B*(e/B)=e:=by rw [Rat.mul_comm];exact Rat.div_mul_cancel (by grind)
 show -e<s n*t n/\s n*t n<e
 grind
theorem Nul.zero:Nul (fun _=>(0:Rat)):=fun e he=>⟨0,fun n _=>by show -e<0/\0<e;grind⟩
theorem Nul.congr {s t:Nat->Rat} (h:Nul s) (k:∀n,s n=t n):Nul t:=by
 have:s=t:=funext k
 rwa [<- this]
structure CS where
 s:Nat->Rat
 c:Cau s
def Eqv (a b:CS):Prop:=Nul (fun n=>a.s n-b.s n)
theorem Eqv.refl (a:CS):Eqv a a:=Nul.zero.congr (fun n=>by grind)
theorem Eqv.symm {a b:CS} (h:Eqv a b):Eqv b a:=Nul.congr (Nul.neg h) (fun n=>by grind)
theorem Eqv.trans {a b c:CS} (h:Eqv a b) (k:Eqv b c):Eqv a c:=Nul.congr (Nul.add h k) (fun n=>by grind)
instance csd:Setoid CS:=⟨Eqv,Eqv.refl,Eqv.symm,Eqv.trans⟩
def Re:Type:=Quotient csd
def mk (a:CS):Re:=Quotient.mk csd a
theorem mk_eq {a b:CS}:mk a=mk b↔Eqv a b:=⟨fun h=>Quotient.exact h,fun h=>Quotient.sound h⟩
theorem Re.ind {P:Re->Prop} (h:∀a,P (mk a)) (x:Re):P x:=Quotient.ind h x
theorem Re.rep (x:Re):∃a,x=mk a:=Re.ind (P:=fun x=>∃a,x=mk a) (fun a=>⟨a,rfl⟩) x
def CS.add (a b:CS):CS:=⟨fun n=>a.s n+b.s n,a.c.add b.c⟩
def CS.mul (a b:CS):CS:=⟨fun n=>a.s n*b.s n,a.c.mul b.c⟩
def CS.neg (a:CS):CS:=⟨fun n=> - a.s n,a.c.neg⟩
def CS.con (q:Rat):CS:=⟨fun _=>q,Cau.const q⟩
theorem CS.add_eqv {a b c d:CS} (h:Eqv a c) (k:Eqv b d):Eqv (a.add b) (c.add d):=Nul.congr (Nul.add h k) (fun n=>by simp only [CS.add];grind)
theorem CS.neg_eqv {a c:CS} (h:Eqv a c):Eqv a.neg c.neg:=Nul.congr (Nul.neg h) (fun n=>by simp only [CS.neg];grind)
theorem CS.mul_eqv {a b c d:CS} (h:Eqv a c) (k:Eqv b d):Eqv (a.mul b) (c.mul d):=
 Nul.congr (Nul.add (Nul.mul h b.c) (Nul.mul k c.c)) (fun n=>by simp only [CS.mul];grind)
def Re.add (x y:Re):Re:=Quotient.lift₂ (fun a b=>mk (a.add b)) (fun _ _ _ _ h k=>mk_eq.2 (CS.add_eqv h k)) x y
def Re.mul (x y:Re):Re:=Quotient.lift₂ (fun a b=>mk (a.mul b)) (fun _ _ _ _ h k=>mk_eq.2 (CS.mul_eqv h k)) x y
def Re.neg (x:Re):Re:=Quotient.lift (fun a=>mk a.neg) (fun _ _ h=>mk_eq.2 (CS.neg_eqv h)) x
def rat (q:Rat):Re:=mk (CS.con q)
instance:Add Re:=⟨Re.add⟩
instance:Mul Re:=⟨Re.mul⟩
instance:Neg Re:=⟨Re.neg⟩
instance:Sub Re:=⟨fun x y=>x + -y⟩
instance {n:Nat}:OfNat Re n:=⟨rat (OfNat.ofNat n)⟩
theorem sub_eq (x y:Re):x-y=x + -y:=rfl
theorem zpF {a b:CS} (h:∀n,a.s n=b.s n):mk a=mk b:=mk_eq.2 (Nul.zero.congr (fun n=>by rw [h n];grind))
theorem add_comm (x y:Re):x+y=y+x:=by
 revert x y;refine Re.ind fun a=>Re.ind fun b=>?_
 exact zpF fun n=>by simp only [CS.add];grind
theorem add_assoc (x y z:Re):x+y+z=x+(y+z):=by
 revert x y z;refine Re.ind fun a=>Re.ind fun b=>Re.ind fun c=>?_
 exact zpF fun n=>by simp only [CS.add];grind
theorem add_zero (x:Re):x+0=x:=by
 revert x;refine Re.ind fun a=>?_
 exact zpF fun n=>by simp only [CS.add,CS.con];grind
theorem add_neg (x:Re):x + -x=0:=by
 revert x;refine Re.ind fun a=>?_
 exact zpF fun n=>by simp only [CS.add,CS.neg,CS.con];grind
theorem mul_comm (x y:Re):x*y=y*x:=by
 revert x y;refine Re.ind fun a=>Re.ind fun b=>?_
 exact zpF fun n=>by simp only [CS.mul];grind
theorem mul_assoc (x y z:Re):x*y*z=x*(y*z):=by
 revert x y z;refine Re.ind fun a=>Re.ind fun b=>Re.ind fun c=>?_
 exact zpF fun n=>by simp only [CS.mul];grind
theorem mul_one (x:Re):x*1=x:=by
 revert x;refine Re.ind fun a=>?_
 exact zpF fun n=>by simp only [CS.mul,CS.con];grind
theorem mul_add (x y z:Re):x*(y+z)=x*y+x*z:=by
 revert x y z;refine Re.ind fun a=>Re.ind fun b=>Re.ind fun c=>?_
 exact zpF fun n=>by simp only [CS.mul,CS.add];grind
theorem zpt (p q:Rat):rat (p+q)=rat p+rat q:=rfl
theorem znA (p q:Rat):rat (p*q)=rat p*rat q:=rfl
theorem zCz (p:Rat):rat (-p)= - rat p:=rfl
theorem Pos.congr {a b:CS} (h:Pos a.s) (k:Eqv a b):Pos b.s:=by
 obtain ⟨e,he,N,hN⟩:=h
 obtain ⟨M,hM⟩:=k (e/2) (zh6 he)
 refine ⟨e/2,zh6 he,max N M,fun n hn=>?_⟩
 have a1:=hN n (by omega)
 have a2:=hM n (by omega)
 simp only at a2
 grind
def Re.pos (x:Re):Prop:=Quotient.lift (fun a:CS=>Pos a.s) (fun a b h=>propext ⟨fun k=>k.congr h,fun k=>k.congr (Eqv.symm h)⟩) x
instance:LT Re:=⟨fun x y=>Re.pos (y-x)⟩
instance:LE Re:=⟨fun x y=>¬y<x⟩
theorem lt_def (x y:Re):(x<y)=Re.pos (y-x):=rfl
theorem zLT {x y:Re}:x.pos->y.pos->(x+y).pos:=by
 obtain ⟨a,rfl⟩:=x.rep
 obtain ⟨b,rfl⟩:=y.rep
 rintro ⟨e,he,N,hN⟩ ⟨f,hf,M,hM⟩
 refine ⟨e,he,max N M,fun n hn=>?_⟩
 have a1:=hN n (by omega)
 have a2:=hM n (by omega)
 simp only [CS.add];grind
theorem zLS {x y:Re}:x.pos->y.pos->(x*y).pos:=by
 obtain ⟨a,rfl⟩:=x.rep
 obtain ⟨b,rfl⟩:=y.rep
 rintro ⟨e,he,N,hN⟩ ⟨f,hf,M,hM⟩
 refine ⟨e*f,Rat.mul_pos he hf,max N M,fun n hn=>?_⟩
 have a1:=hN n (by omega)
 have a2:=hM n (by omega)
 have p1:0<(a.s n-e)*f:=Rat.mul_pos (by grind) hf
 have p2:0<a.s n*(b.s n-f):=Rat.mul_pos (by grind) (by grind)
 simp only [CS.mul];grind
theorem zBr:¬(0:Re).pos:=by
 rintro ⟨e,he,N,hN⟩
 have:=hN N (Nat.le_refl N)
 simp only [CS.con] at this
 grind
theorem zLR {x:Re}:¬x.pos->¬(-x).pos->x=0:=by
 obtain ⟨a,rfl⟩:=x.rep
 intro h k
 refine mk_eq.2 ?_
 intro e he
 obtain ⟨N,hN⟩:=a.c (e/2) (zh6 he)
 have k1:∃n,N<=n/\¬(e/2<a.s n):=Classical.byContradiction fun c=>h ⟨e/2,zh6 he,N,fun n hn=>Classical.byContradiction fun d=>c ⟨n,hn,d⟩⟩
 have k2:∃n,N<=n/\¬(e/2 < - a.s n):=Classical.byContradiction fun c=>k ⟨e/2,zh6 he,N,fun n hn=>Classical.byContradiction fun d=>c ⟨n,hn,d⟩⟩
 obtain ⟨p,hp,hp'⟩:=k1
 obtain ⟨q,hq,hq'⟩:=k2
 refine ⟨N,fun n hn=>?_⟩
 have u1:=hN n p hn hp
 have u2:=hN q n hq hn
 simp only [CS.con,Rat.not_lt] at *
 grind
theorem zLH {q:Rat}:(rat q).pos↔0<q:=by
 constructor
 ·rintro ⟨e,he,N,hN⟩
  have:=hN N (Nat.le_refl N)
  simp only [CS.con] at this
  grind
 ·intro h
  exact ⟨q/2,zh6 h,0,fun n _=>by simp only [CS.con];grind⟩
theorem zKp (x:Re):∃q:Rat,x<rat q:=by
 revert x;refine Re.ind fun a=>?_
 obtain ⟨B,b0,hB⟩:=a.c.bdd
 refine ⟨B+1,1,by decide,0,fun n _=>?_⟩
 have:=(hB n).2
 simp only [CS.add,CS.neg,CS.con];grind
theorem zKq (q:Rat):∃n:Nat,q<(n:Rat):=by
 refine ⟨(q.floor+1).toNat,?_⟩
 have h:=Rat.lt_floor_add_one q
 rcases Int.le_total 0 (q.floor+1) with k|k
 ·have e:((q.floor+1).toNat:Int)=q.floor+1:=Int.toNat_of_nonneg k
  have e2:(((q.floor+1).toNat:Nat):Rat)=((q.floor+1:Int):Rat):=by rw [<- Rat.intCast_natCast,e]
  rw [e2];exact h
 ·have k2:((q.floor+1:Int):Rat)<=0:=Rat.intCast_nonpos.2 k
  have k3:(0:Rat)<=(((q.floor+1).toNat:Nat):Rat):=Rat.natCast_nonneg
  grind
theorem zJB (x:Re) {e:Rat} (he:0<e):∃q:Rat,x-rat q<rat e/\rat q-x<rat e:=by
 revert x;refine Re.ind fun a=>?_
 obtain ⟨N,hN⟩:=a.c (e/2) (zh6 he)
 refine ⟨a.s N,⟨e/4,by grind,N,fun n hn=>?_⟩,⟨e/4,by grind,N,fun n hn=>?_⟩⟩
 ·have:=hN n N hn (Nat.le_refl N)
  simp only [CS.add,CS.neg,CS.con];grind
 ·have:=hN N n (Nat.le_refl N) hn
  simp only [CS.add,CS.neg,CS.con];grind
theorem zKU {x:Re}:x.pos->∃y,x*y=1:=by
 obtain ⟨a,rfl⟩:=x.rep
 rintro ⟨e,he,N,hN⟩
 have hc:Cau (fun n=>(a.s (n+N))⁻¹):=by
  intro d hd
  obtain ⟨M,hM⟩:=a.c (d*(e*e)) (Rat.mul_pos hd (Rat.mul_pos he he))
  refine ⟨M,fun m n hm hn=>?_⟩
  have u:=hM (n+N) (m+N) (by omega) (by omega)
  have um:=hN (m+N) (by omega)
  have un:=hN (n+N) (by omega)
  show (a.s (m+N))⁻¹-(a.s (n+N))⁻¹<d
  generalize a.s (m+N)=p at *
  generalize a.s (n+N)=q at *
  have hp:0<p:=by grind
  have hq:0<q:=by grind
  have hpq:0<p*q:=Rat.mul_pos hp hq
  have e1:(p⁻¹-q⁻¹)*(p*q)=q-p:=by
   have i1:=Rat.inv_mul_cancel p (by grind)
   have i2:=Rat.inv_mul_cancel q (by grind)
   grind
  have e2:d*(e*e)<=d*(p*q):=by
   have p1:0<(p-e)*q:=Rat.mul_pos (by grind) hq
   have p2:0<e*(q-e):=Rat.mul_pos he (by grind)
   have:e*e<=p*q:=by grind
   exact Rat.mul_le_mul_of_nonneg_left this (by grind)
  refine Rat.lt_of_mul_lt_mul_right (c:=p*q) ?_ (by grind)
  grind
 refine ⟨mk ⟨_,hc⟩,mk_eq.2 ?_⟩
 intro d hd
 have hf:∀n,N<=n->a.s n*(a.s n)⁻¹=1:=fun n hn=>Rat.mul_inv_cancel _ (by have:=hN n hn;grind)
 obtain ⟨B,b0,hB⟩:=hc.bdd
 obtain ⟨M,hM⟩:=a.c (d/B) (div_pos hd b0)
 refine ⟨max M N,fun n hn=>?_⟩
 have u1:=hM n (n+N) (by omega) (by omega)
 have u2:=hM (n+N) n (by omega) (by omega)
 have v:=zHg (hB n).1 (hB n).2 (x:=a.s n-a.s (n+N)) (d:=d/B) (by grind) u1
 have w:=hf (n+N) (by omega)
 have z1:B*(d/B)=d:=by rw [Rat.mul_comm];exact Rat.div_mul_cancel (by grind)
 simp only [CS.mul,CS.con]
 grind
end Go.Proofs.YtaoakfodkoifoaaGreat.An
namespace Go.Proofs.YtaoakfodkoifoaaGreat.An
def npow (x:Re):Nat->Re
 | 0=>1
 | n+1=>npow x n*x
instance:Pow Re Nat:=⟨npow⟩
theorem pow_succ (x:Re) (n:Nat):x^(n+1)=x^n*x:=rfl
theorem zero_add (x:Re):0+x=x:=by rw [add_comm,add_zero]
theorem one_mul (x:Re):1*x=x:=by rw [mul_comm,mul_one]
theorem add_mul (x y z:Re):(x+y)*z=x*z+y*z:=by rw [mul_comm,mul_add,mul_comm z x,mul_comm z y]
theorem add_left_comm (x y z:Re):x+(y+z)=y+(x+z):=by rw [<- add_assoc,add_comm x y,add_assoc]
theorem mul_left_comm (x y z:Re):x*(y*z)=y*(x*z):=by rw [<- mul_assoc,mul_comm x y,mul_assoc]
theorem zs3 {x y z:Re} (h:x+y=x+z):y=z:=by
 have: -x+(x+y)= -x+(x+z):=by rw [h]
 rwa [<- add_assoc,<- add_assoc,add_comm (-x) x,add_neg,zero_add,zero_add] at this
theorem mul_zero (x:Re):x*0=0:=by
 apply zs3 (x:=x*0)
 rw [<- mul_add,add_zero,add_zero]
theorem zero_mul (x:Re):0*x=0:=by rw [mul_comm,mul_zero]
theorem neg_mul (x y:Re): -x*y= -(x*y):=by
 apply zs3 (x:=x*y)
 rw [<- add_mul,add_neg,add_neg,zero_mul]
theorem neg_eq (x:Re): -x=rat (-1)*x:=by
 have:rat (-1)= - 1:=rfl
 rw [this,neg_mul,one_mul]
inductive PE where
 | v (n:Nat)
 | q (r:Rat)
 | add (a b:PE)
 | sub (a b:PE)
 | mul (a b:PE)
 | neg (a:PE)
 | pow (a:PE) (n:Nat)
def PE.ev (l:List Re):PE->Re
 | .v n=>l.getD n 0
 | .q r=>rat r
 | .add a b=>a.ev l+b.ev l
 | .sub a b=>a.ev l-b.ev l
 | .mul a b=>a.ev l*b.ev l
 | .neg a=> - a.ev l
 | .pow a n=>a.ev l^n
def mulv (i:Nat):List Nat->List Nat
 | []=> [i]
 | j::m=>bif Nat.ble i j then i::j::m else j::mulv i m
def mulm (m n:List Nat):List Nat:=m.foldr mulv n
def cmpm:List Nat->List Nat->Ordering
 | [],[]=> .eq
 | [],_::_=> .lt
 | _::_,[]=> .gt
 | i::m,j::n=>bif Nat.beq i j then cmpm m n else bif Nat.ble i j then .lt else .gt
theorem zMJ {m n:List Nat} (h:cmpm m n= .eq):m=n:=by
 induction m generalizing n with
 | nil=>cases n with
  | nil=>rfl
  | cons j n=>simp [cmpm] at h
 | cons i m ih=>cases n with
  | nil=>simp [cmpm] at h
  | cons j n=>
   simp only [cmpm] at h
   cases hb:Nat.beq i j
   ·rw [hb] at h;cases hc:Nat.ble i j<;>rw [hc] at h<;>cases h
   ·rw [hb] at h;rw [ih h,Nat.eq_of_beq_eq_true hb]
def addt (t:List Nat×Rat):List (List Nat×Rat)->List (List Nat×Rat)
 | []=> [t]
 | u::p=>match cmpm t.1 u.1 with
  | .lt=>t::u::p
  | .eq=>bif decide (t.2+u.2=0) then p else (t.1,t.2+u.2)::p
  | .gt=>u::addt t p
def addp (p q:List (List Nat×Rat)):List (List Nat×Rat):=p.foldr addt q
def mult (t:List Nat×Rat) (q r:List (List Nat×Rat)):List (List Nat×Rat):=q.foldr (fun u r=>addt (mulm t.1 u.1,t.2*u.2) r) r
def mulp (p q:List (List Nat×Rat)):List (List Nat×Rat):=p.foldr (fun t r=>mult t q r) []
def powp (p:List (List Nat×Rat)):Nat->List (List Nat×Rat)
 | 0=> [([],1)]
 | n+1=>mulp (powp p n) p
def PE.norm:PE->List (List Nat×Rat)
 | .v n=> [([n],1)]
 | .q r=>bif decide (r=0) then [] else [([],r)]
 | .add a b=>addp a.norm b.norm
 | .sub a b=>addp a.norm (mulp [([],-1)] b.norm)
 | .mul a b=>mulp a.norm b.norm
 | .neg a=>mulp [([],-1)] a.norm
 | .pow a n=>powp a.norm n
def evm (l:List Re) (m:List Nat):Re:=m.foldr (fun i x=>l.getD i 0*x) 1
def evp (l:List Re) (p:List (List Nat×Rat)):Re:=p.foldr (fun t x=>rat t.2*evm l t.1+x) 0
theorem zJ8 (l:List Re) (i:Nat) (m:List Nat):evm l (mulv i m)=l.getD i 0*evm l m:=by
 induction m with
 | nil=>rfl
 | cons j m ih=>
  simp only [mulv]
  cases Nat.ble i j
  ·show l.getD j 0*evm l (mulv i m)=l.getD i 0*(l.getD j 0*evm l m)
   rw [ih,mul_left_comm]
  ·rfl
theorem zJ9 (l:List Re) (m n:List Nat):evm l (mulm m n)=evm l m*evm l n:=by
 induction m with
 | nil=>exact (one_mul _).symm
 | cons i m ih=>
  show evm l (mulv i (mulm m n))=l.getD i 0*evm l m*evm l n
  rw [zJ8,ih,mul_assoc]
theorem zJg:rat 0=0:=rfl
theorem zEI (l:List Re) (t:List Nat×Rat) (p:List (List Nat×Rat)):evp l (addt t p)=rat t.2*evm l t.1+evp l p:=by
 induction p with
 | nil=>rfl
 | cons u p ih=>
  simp only [addt]
  cases hc:cmpm t.1 u.1
  ·rfl
  ·have e:=zMJ hc
   simp only
   have key:rat (t.2+u.2)*evm l t.1+evp l p=rat t.2*evm l t.1+evp l (u::p):=by
    show _=rat t.2*evm l t.1+(rat u.2*evm l u.1+evp l p)
    rw [zpt,add_mul,<- e,add_assoc]
   cases hz:decide (t.2+u.2=0)
   ·exact key
   ·have z:=of_decide_eq_true hz
    rw [<- key,z,zJg,zero_mul,zero_add]
    rfl
  ·show rat u.2*evm l u.1+evp l (addt t p)=rat t.2*evm l t.1+(rat u.2*evm l u.1+evp l p)
   rw [ih,add_left_comm]
theorem zEJ (l:List Re) (p q:List (List Nat×Rat)):evp l (addp p q)=evp l p+evp l q:=by
 induction p with
 | nil=>exact (zero_add _).symm
 | cons t p ih=>
  show evp l (addt t (addp p q))=rat t.2*evm l t.1+evp l p+evp l q
  rw [zEI,ih,add_assoc]
theorem zJ7 (l:List Re) (t:List Nat×Rat) (q r:List (List Nat×Rat)):evp l (mult t q r)=rat t.2*evm l t.1*evp l q+evp l r:=by
 induction q with
 | nil=>show evp l r=_*0+_;rw [mul_zero,zero_add]
 | cons u q ih=>
  show evp l (addt (mulm t.1 u.1,t.2*u.2) (mult t q r))=rat t.2*evm l t.1*(rat u.2*evm l u.1+evp l q)+evp l r
  rw [zEI,ih,zJ9,znA,mul_add]
  simp only [mul_assoc,add_assoc,mul_left_comm (evm l t.1) (rat u.2)]
theorem zut (l:List Re) (p q:List (List Nat×Rat)):evp l (mulp p q)=evp l p*evp l q:=by
 induction p with
 | nil=>exact (zero_mul _).symm
 | cons t p ih=>
  show evp l (mult t q (mulp p q))=(rat t.2*evm l t.1+evp l p)*evp l q
  rw [zJ7,ih,add_mul]
theorem zMy (l:List Re):evp l [([],1)]=1:=by
 show rat 1*1+0=1
 rw [add_zero,mul_one];rfl
theorem zBC (l:List Re):evp l [([],-1)]=rat (-1):=by
 show rat (-1)*1+0=_
 rw [add_zero,mul_one]
theorem zJ6 (l:List Re) (p:List (List Nat×Rat)) (n:Nat):evp l (powp p n)=evp l p^n:=by
 induction n with
 | zero=>exact zMy l
 | succ n ih=>
  show evp l (mulp (powp p n) p)=evp l p^n*evp l p
  rw [zut,ih]
theorem PE.sound (l:List Re) (a:PE):evp l a.norm=a.ev l:=by
 induction a with
 | v n=>show rat 1*(l.getD n 0*1)+0=l.getD n 0;rw [mul_one,add_zero];exact one_mul _
 | q r=>
  simp only [PE.norm,PE.ev]
  cases hz:decide (r=0)
  ·show rat r*1+0=rat r;rw [add_zero,mul_one]
  ·rw [of_decide_eq_true hz];rfl
 | add a b iha ihb=>simp only [PE.norm,PE.ev,zEJ,iha,ihb]
 | sub a b iha ihb=>simp only [PE.norm,PE.ev,zEJ,zut,zBC,iha,ihb,sub_eq,neg_eq (b.ev l)]
 | mul a b iha ihb=>simp only [PE.norm,PE.ev,zut,iha,ihb]
 | neg a ih=>simp only [PE.norm,PE.ev,zut,zBC,ih,neg_eq (a.ev l)]
 | pow a n ih=>simp only [PE.norm,PE.ev,zJ6,ih]
theorem zcy {x y:Re} (h:x-y=0):x=y:=by
 have:x + -y=y + -y:=by rw [add_neg];exact h
 rw [add_comm x,add_comm y] at this
 exact zs3 this
class Rf (l:List Re) (x:Re) (e:outParam PE):Prop where
 eq:e.ev l=x
instance (priority:=low) rfAt0 {x:Re} {l:List Re}:Rf (x::l) x (.v 0):=⟨rfl⟩
instance (priority:=low) rfAt1 {v0 x:Re} {l:List Re}:Rf (v0::x::l) x (.v 1):=⟨rfl⟩
instance (priority:=low) rfAt2 {v0 v1 x:Re} {l:List Re}:Rf (v0::v1::x::l) x (.v 2):=⟨rfl⟩
instance (priority:=low) rfAt3 {v0 v1 v2 x:Re} {l:List Re}:Rf (v0::v1::v2::x::l) x (.v 3):=⟨rfl⟩
instance (priority:=low) rfAt4 {v0 v1 v2 v3 x:Re} {l:List Re}:Rf (v0::v1::v2::v3::x::l) x (.v 4):=⟨rfl⟩
instance (priority:=low) rfAt5 {v0 v1 v2 v3 v4 x:Re} {l:List Re}:Rf (v0::v1::v2::v3::v4::x::l) x (.v 5):=⟨rfl⟩
instance (priority:=low) rfAt6 {v0 v1 v2 v3 v4 v5 x:Re} {l:List Re}:Rf (v0::v1::v2::v3::v4::v5::x::l) x (.v 6):=⟨rfl⟩
instance (priority:=low) rfAt7 {v0 v1 v2 v3 v4 v5 v6 x:Re} {l:List Re}:Rf (v0::v1::v2::v3::v4::v5::v6::x::l) x (.v 7):=⟨rfl⟩
instance (priority:=low) rfAt8 {v0 v1 v2 v3 v4 v5 v6 v7 x:Re} {l:List Re}:Rf (v0::v1::v2::v3::v4::v5::v6::v7::x::l) x (.v 8):=⟨rfl⟩
instance (priority:=low) rfAt9 {v0 v1 v2 v3 v4 v5 v6 v7 v8 x:Re} {l:List Re}:Rf (v0::v1::v2::v3::v4::v5::v6::v7::v8::x::l) x (.v 9):=⟨rfl⟩
instance (priority:=low) rfAt10 {v0 v1 v2 v3 v4 v5 v6 v7 v8 v9 x:Re} {l:List Re}:Rf (v0::v1::v2::v3::v4::v5::v6::v7::v8::v9::x::l) x (.v 10):=⟨rfl⟩
instance (priority:=low) rfAt11 {v0 v1 v2 v3 v4 v5 v6 v7 v8 v9 v10 x:Re} {l:List Re}:Rf (v0::v1::v2::v3::v4::v5::v6::v7::v8::v9::v10::x::l) x (.v 11):=⟨rfl⟩
instance (priority:=low) rfAt12 {v0 v1 v2 v3 v4 v5 v6 v7 v8 v9 v10 v11 x:Re} {l:List Re}:Rf (v0::v1::v2::v3::v4::v5::v6::v7::v8::v9::v10::v11::x::l) x (.v 12):=⟨rfl⟩
instance (priority:=low) rfAt13 {v0 v1 v2 v3 v4 v5 v6 v7 v8 v9 v10 v11 v12 x:Re} {l:List Re}:Rf (v0::v1::v2::v3::v4::v5::v6::v7::v8::v9::v10::v11::v12::x::l) x (.v 13):=⟨rfl⟩
instance (priority:=low) rfAt14 {v0 v1 v2 v3 v4 v5 v6 v7 v8 v9 v10 v11 v12 v13 x:Re} {l:List Re}:Rf (v0::v1::v2::v3::v4::v5::v6::v7::v8::v9::v10::v11::v12::v13::x::l) x (.v 14):=⟨rfl⟩
instance (priority:=low) rfAt15 {v0 v1 v2 v3 v4 v5 v6 v7 v8 v9 v10 v11 v12 v13 v14 x:Re} {l:List Re}:Rf (v0::v1::v2::v3::v4::v5::v6::v7::v8::v9::v10::v11::v12::v13::v14::x::l) x (.v 15):=⟨rfl⟩
instance rfAdd {l:List Re} {x y:Re} {a b:PE} [h:Rf l x a] [k:Rf l y b]:Rf l (x+y) (.add a b):=⟨by rw [PE.ev,h.eq,k.eq]⟩
instance rfSub {l:List Re} {x y:Re} {a b:PE} [h:Rf l x a] [k:Rf l y b]:Rf l (x-y) (.sub a b):=⟨by rw [PE.ev,h.eq,k.eq]⟩
instance rfMul {l:List Re} {x y:Re} {a b:PE} [h:Rf l x a] [k:Rf l y b]:Rf l (x*y) (.mul a b):=⟨by rw [PE.ev,h.eq,k.eq]⟩
instance rfNeg {l:List Re} {x:Re} {a:PE} [h:Rf l x a]:Rf l (-x) (.neg a):=⟨by rw [PE.ev,h.eq]⟩
instance rfPow {l:List Re} {x:Re} {a:PE} {n:Nat} [h:Rf l x a]:Rf l (x^n) (.pow a n):=⟨by rw [PE.ev,h.eq]⟩
instance rfRat {l:List Re} {r:Rat}:Rf l (rat r) (.q r):=⟨rfl⟩
instance rfNum {l:List Re} {n:Nat}:Rf l (no_index (OfNat.ofNat n)) (.q (OfNat.ofNat n)):=⟨rfl⟩
def PE.nil (a:PE):Bool:=match a.norm with
 | []=>true
 | _=>false
theorem PE.nil_ev {a:PE} (h:a.nil=true) (l:List Re):a.ev l=0:=by
 rw [<- PE.sound]
 simp only [PE.nil] at h
 cases hn:a.norm with
 | nil=>rfl
 | cons t p=>rw [hn] at h;cases h
theorem ring (l:List Re) {x y:Re} {a b:PE} [h:Rf l x a] [k:Rf l y b] (e:(a.sub b).nil=true:=by kernel_rfl):x=y:=by
 have:=PE.nil_ev e l
 rw [PE.ev,h.eq,k.eq] at this
 exact zcy this
theorem zi5 (x:Re):0<x↔x.pos:=by
 rw [lt_def,show x-0=x from ring [x]]
theorem zvL {x y:Re}:x<y↔0<y-x:=by rw [zi5];rfl
theorem zBw {x y:Re}:x<=y↔0<=y-x:=by
 show ¬(y<x)↔¬(y-x<0)
 rw [zvL,zvL (x:=y-x),show 0-(y-x)=x-y from ring [x,y]]
theorem not_le {x y:Re}:¬x<=y↔y<x:=Classical.not_not
theorem not_lt {x y:Re}:¬x<y↔y<=x:=Iff.rfl
theorem pp {x y:Re} (h:0<x) (k:0<y):0<x+y:=by rw [zi5] at *;exact zLT h k
theorem mp {x y:Re} (h:0<x) (k:0<y):0<x*y:=by rw [zi5] at *;exact zLS h k
theorem lt_irrefl (x:Re):¬x<x:=by
 rw [zvL,zi5,show x-x=0 from ring [x]];exact zBr
theorem lt_trans {x y z:Re} (h:x<y) (k:y<z):x<z:=by
 rw [zvL] at *
 have:=pp h k
 rwa [show y-x+(z-y)=z-x from ring [x,y,z]] at this
theorem le_of_lt {x y:Re} (h:x<y):x<=y:=fun k=>lt_irrefl x (lt_trans h k)
theorem tri (x y:Re):x<y\/x=y\/y<x:=by
 by_cases h:x<y
 ·exact .inl h
 by_cases k:y<x
 ·exact .inr (.inr k)
 rw [zvL,zi5] at h k
 refine .inr (.inl (zcy (zLR k ?_)))
 rwa [show -(x-y)=y-x from ring [x,y]]
theorem le_iff {x y:Re}:x<=y↔x<y\/x=y:=by
 constructor
 ·intro h
  rcases tri x y with k|k|k
  ·exact .inl k
  ·exact .inr k
  ·exact absurd k h
 ·rintro (h|rfl)
  ·exact le_of_lt h
  ·exact lt_irrefl _
theorem le_refl (x:Re):x<=x:=lt_irrefl x
theorem le_of_eq {x y:Re} (h:x=y):x<=y:=h▸le_refl x
theorem lt_of_lt_of_le {x y z:Re} (h:x<y) (k:y<=z):x<z:=by
 rcases le_iff.1 k with k|rfl
 ·exact lt_trans h k
 ·exact h
theorem lt_of_le_of_lt {x y z:Re} (h:x<=y) (k:y<z):x<z:=by
 rcases le_iff.1 h with h|rfl
 ·exact lt_trans h k
 ·exact k
theorem le_trans {x y z:Re} (h:x<=y) (k:y<=z):x<=z:=by
 rcases le_iff.1 h with h|rfl
 ·exact le_of_lt (lt_of_lt_of_le h k)
 ·exact k
theorem le_total (x y:Re):x<=y\/y<=x:=by
 rcases tri x y with h|rfl|h
 ·exact .inl (le_of_lt h)
 ·exact .inl (le_refl _)
 ·exact .inr (le_of_lt h)
theorem le_antisymm {x y:Re} (h:x<=y) (k:y<=x):x=y:=by
 rcases le_iff.1 h with h|h
 ·exact absurd h k
 ·exact h
theorem lt_or_le (x y:Re):x<y\/y<=x:=by
 rcases tri x y with h|rfl|h
 ·exact .inl h
 ·exact .inr (le_refl _)
 ·exact .inr (le_of_lt h)
theorem pn {x y:Re} (h:0<=x) (k:0<=y):0<=x+y:=by
 rcases le_iff.1 h with h|rfl
 ·rcases le_iff.1 k with k|rfl
  ·exact le_of_lt (pp h k)
  ·rw [add_zero];exact le_of_lt h
 ·rw [zero_add];exact k
theorem mn {x y:Re} (h:0<=x) (k:0<=y):0<=x*y:=by
 rcases le_iff.1 h with h|rfl
 ·rcases le_iff.1 k with k|rfl
  ·exact le_of_lt (mp h k)
  ·rw [mul_zero];exact le_refl _
 ·rw [zero_mul];exact le_refl _
theorem ppn {x y:Re} (h:0<x) (k:0<=y):0<x+y:=by
 rcases le_iff.1 k with k|rfl
 ·exact pp h k
 ·rw [add_zero];exact h
theorem pnp {x y:Re} (h:0<=x) (k:0<y):0<x+y:=by rw [add_comm];exact ppn k h
theorem sn {x y:Re} (h:x<=y):0<=y-x:=zBw.1 h
theorem sp {x y:Re} (h:x<y):0<y-x:=zvL.1 h
theorem zH (l:List Re) {x y p:Re} (hp:0<=p) {a b c:PE} [h:Rf l x a] [k:Rf l y b] [m:Rf l p c] (e:((b.sub a).sub c).nil=true:=by kernel_rfl):x<=y:=by
 have:=PE.nil_ev e l
 simp only [PE.ev,h.eq,k.eq,m.eq] at this
 rw [zBw,zcy this];exact hp
theorem zdo (l:List Re) {x y p:Re} (hp:0<p) {a b c:PE} [h:Rf l x a] [k:Rf l y b] [m:Rf l p c] (e:((b.sub a).sub c).nil=true:=by kernel_rfl):x<y:=by
 have:=PE.nil_ev e l
 simp only [PE.ev,h.eq,k.eq,m.eq] at this
 rw [zvL,zcy this];exact hp
theorem zkl (l:List Re) {x y p q:Re} (hp:p=q) {a b c d:PE} [h:Rf l x a] [k:Rf l y b] [m:Rf l p c] [n:Rf l q d] (e:((a.sub b).sub (c.sub d)).nil=true:=by kernel_rfl):x=y:=by
 have:=PE.nil_ev e l
 simp only [PE.ev,h.eq,k.eq,m.eq,n.eq] at this
 refine zcy ((zcy this).trans ?_)
 rw [hp];exact ring [q]
theorem zxY {p q:Rat}:rat p<rat q↔p<q:=by
 rw [lt_def,show rat q-rat p=rat (q + -p) from rfl,zLH,<- Rat.sub_eq_add_neg,<- Rat.lt_iff_sub_pos]
theorem zps {p q:Rat}:rat p<=rat q↔p<=q:=by
 show ¬(rat q<rat p)↔_
 rw [zxY,Rat.not_lt]
theorem zD2 {q:Rat} (h:0<=q):0<=rat q:=zps.2 h
theorem zAT {q:Rat} (h:0<q):0<rat q:=zxY.2 h
theorem qn (q:Rat) (h:decide (0<=q)=true:=by kernel_rfl):0<=rat q:=zD2 (of_decide_eq_true h)
theorem qp (q:Rat) (h:decide (0<q)=true:=by kernel_rfl):0<rat q:=zAT (of_decide_eq_true h)
theorem zo1 (p q:Rat) (h:decide (p<=q)=true:=by kernel_rfl):rat p<=rat q:=zps.2 (of_decide_eq_true h)
theorem zG7 (p q:Rat) (h:decide (p<q)=true:=by kernel_rfl):rat p<rat q:=zxY.2 (of_decide_eq_true h)
theorem kn (q:Rat) {x:Re} (hx:0<=x) (h:decide (0<=q)=true:=by kernel_rfl):0<=rat q*x:=mn (qn q h) hx
theorem kp (q:Rat) {x:Re} (hx:0<x) (h:decide (0<q)=true:=by kernel_rfl):0<rat q*x:=mp (qp q h) hx
theorem sqn (x:Re):0<=x*x:=by
 rcases le_total 0 x with h|h
 ·exact mn h h
 ·have:=mn (sn h) (sn h)
  exact zH [x] this
theorem zC4 {x:Re} (h:x≠0):∃y,x*y=1:=by
 rcases tri 0 x with k|k|k
 ·exact zKU ((zi5 x).1 k)
 ·exact absurd k.symm h
 ·have k2:0 < -x:=zdo [x] (sp k)
  obtain ⟨y,hy⟩:=zKU ((zi5 _).1 k2)
  exact ⟨-y,(ring [x,y]:x * -y= -x*y).trans hy⟩
open Classical in
def Re.inv (x:Re):Re:=if h:x≠0 then Classical.choose (zC4 h) else 0
instance:Inv Re:=⟨Re.inv⟩
instance:Div Re:=⟨fun x y=>x*y⁻¹⟩
theorem div_eq (x y:Re):x/y=x*y⁻¹:=rfl
theorem zpE {x:Re} (h:x≠0):x*x⁻¹=1:=by
 show x*Re.inv x=1
 rw [Re.inv,dif_pos h];exact Classical.choose_spec (zC4 h)
theorem ne_of_gt {x y:Re} (h:x<y):y≠x:=fun e=>lt_irrefl x (e▸h)
theorem ne_of_lt {x y:Re} (h:x<y):x≠y:=fun e=>lt_irrefl x (e▸h)
theorem div_mul {x y:Re} (h:y≠0):x/y*y=x:=by
 rw [div_eq]
 exact zkl [x,y,y⁻¹] (congrArg (fun z=>x*z) (zpE h):x*(y*y⁻¹)=x*1)
theorem zMo {x:Re} (h:0<x):0<x⁻¹:=by
 have e:=zpE (ne_of_gt h)
 rcases lt_or_le 0 x⁻¹ with k|k
 ·exact k
 ·have:=mn (le_of_lt h) (sn k)
  have e2:x*(0-x⁻¹)= -1:=zkl [x,x⁻¹] (congrArg (fun z=> -z) e: -(x*x⁻¹)= -1)
  rw [e2] at this
  exact absurd (zdo [] (qp 1):(-1:Re)<0) this
theorem zv7 {x y:Re} (h:0<x) (k:0<y):0<x/y:=mp h (zMo k)
theorem zFW {x y:Re} (h:0<=x) (k:0<y):0<=x/y:=mn h (le_of_lt (zMo k))
theorem zfR {x y z:Re} (hz:0<z) (h:x*z<=y*z):x<=y:=by
 rcases lt_or_le y x with k|k
 ·have:=mp (sp k) hz
  exact absurd (zdo [x,y,z] this) h
 ·exact k
theorem zfk {x y z:Re} (hz:z≠0) (h:x*z=y*z):x=y:=by
 have e:=zpE hz
 have a1:x*z*z⁻¹=y*z*z⁻¹:=by rw [h]
 have a2:x*z*z⁻¹=x*(z*z⁻¹):=mul_assoc _ _ _
 have a3:y*z*z⁻¹=y*(z*z⁻¹):=mul_assoc _ _ _
 rw [a2,a3,e,mul_one,mul_one] at a1
 exact a1
theorem zBM {x y z:Re} (hy:0<y):x/y<=z↔x<=z*y:=by
 constructor
 ·intro h
  have:=mn (sn h) (le_of_lt hy)
  have e:(z-x/y)*y=z*y-x:=by
   rw [show (z-x/y)*y=z*y-x/y*y from ring [z,x/y,y],div_mul (ne_of_gt hy)]
  rw [e] at this
  exact zBw.2 this
 ·intro h
  refine zfR hy ?_
  rwa [div_mul (ne_of_gt hy)]
theorem ztu {x y z:Re} (hy:0<y):z<=x/y↔z*y<=x:=by
 constructor
 ·intro h
  have:=mn (sn h) (le_of_lt hy)
  have e:(x/y-z)*y=x-z*y:=by
   rw [show (x/y-z)*y=x/y*y-z*y from ring [z,x/y,y],div_mul (ne_of_gt hy)]
  rw [e] at this
  exact zBw.2 this
 ·intro h
  refine zfR hy ?_
  rwa [div_mul (ne_of_gt hy)]
theorem div_lt {x y z:Re} (hy:0<y):x/y<z↔x<z*y:=by
 rw [<- not_le,ztu hy,not_le]
theorem arch (x:Re):∃n:Nat,x<rat n:=by
 obtain ⟨q,hq⟩:=zKp x
 obtain ⟨n,hn⟩:=zKq q
 exact ⟨n,lt_trans hq (zxY.2 hn)⟩
theorem zHx {x c:Re} (h:∀n:Nat,0<n->x*rat n<=c):x<=0:=by
 rcases lt_or_le 0 x with k|k
 ·obtain ⟨n,hn⟩:=arch (c/x)
  rw [div_lt k] at hn
  have h1:=h (n+1) (Nat.succ_pos n)
  have e:rat ((n+1:Nat):Rat)=rat n+1:=by
   rw [show ((n+1:Nat):Rat)=(n:Rat)+1 from Rat.natCast_add n 1,zpt];rfl
  rw [e] at h1
  have:x*(rat n+1)<=x*rat n:=le_trans h1 (le_of_lt (by rw [mul_comm];exact hn))
  generalize rat (n:Rat)=r at this
  exact absurd (zdo [x,r] k:x*r<x*(r+1)) this
 ·exact k
end Go.Proofs.YtaoakfodkoifoaaGreat.An
namespace Go.Proofs.YtaoakfodkoifoaaGreat.An
open Classical in
def abs (x:Re):Re:=if 0<=x then x else -x
theorem zbm {x:Re} (h:0<=x):abs x=x:=by rw [abs,if_pos h]
theorem zh8 {x:Re} (h:x<=0):abs x= -x:=by
 by_cases k:0<=x
 ·have:x=0:=le_antisymm h k
  subst this;rw [zbm k];exact ring []
 ·rw [abs,if_neg k]
theorem zlM {x:Re} (h:x<=0):0 <= -x:=zH [x] (sn h)
theorem zcs (x:Re):0<=abs x:=by
 rcases le_total 0 x with h|h
 ·rw [zbm h];exact h
 ·rw [zh8 h];exact zlM h
theorem zqz (x:Re):x<=abs x:=by
 rcases le_total 0 x with h|h
 ·rw [zbm h];exact le_refl _
 ·exact le_trans h (zcs x)
theorem zjk (x:Re): -x<=abs x:=by
 rcases le_total 0 x with h|h
 ·exact le_trans (zH [x] h) (zcs x)
 ·rw [zh8 h];exact le_refl _
theorem zeU {x c:Re} (h: -c<=x) (k:x<=c):abs x<=c:=by
 rcases le_total 0 x with m|m
 ·rw [zbm m];exact k
 ·rw [zh8 m];exact zH [x,c] (sn h)
theorem zeT {x c:Re} (h:abs x<=c): -c<=x/\x<=c:=by
 have h1:=le_trans (zqz x) h
 have h2:=le_trans (zjk x) h
 exact ⟨zH [x,c] (sn h2),h1⟩
theorem abs_neg (x:Re):abs (-x)=abs x:=by
 rcases le_total 0 x with h|h
 ·rw [zbm h,zh8 (zH [x] h)];exact ring [x]
 ·rw [zh8 h,zbm (zlM h)]
theorem zk6 (x y:Re):abs (x-y)=abs (y-x):=by rw [<- abs_neg,show -(x-y)=y-x from ring [x,y]]
theorem zir (x y:Re):abs (x+y)<=abs x+abs y:=by
 have a1:=zqz x
 have a2:=zqz y
 have b1:=zjk x
 have b2:=zjk y
 generalize abs x=p at *
 generalize abs y=q at *
 exact zeU (zH [x,y,p,q] (pn (sn b1) (sn b2))) (zH [x,y,p,q] (pn (sn a1) (sn a2)))
theorem znE (x y:Re):abs (x*y)=abs x*abs y:=by
 rcases le_total 0 x with h|h<;>rcases le_total 0 y with k|k
 ·rw [zbm h,zbm k,zbm (mn h k)]
 ·rw [zbm h,zh8 k,zh8 (zH [x,y] (mn h (zlM k)))];exact ring [x,y]
 ·rw [zh8 h,zbm k,zh8 (zH [x,y] (mn (zlM h) k))];exact ring [x,y]
 ·rw [zh8 h,zh8 k,zbm (zH [x,y] (mn (zlM h) (zlM k)))];exact ring [x,y]
theorem abs_zero:abs 0=0:=zbm (le_refl 0)
theorem zr2 (x:Re):abs x*abs x=x*x:=by rw [<- znE,zbm (sqn x)]
theorem zDG (x y z:Re):abs (x-z)<=abs (x-y)+abs (y-z):=by
 have:=zir (x-y) (y-z)
 rwa [show x-y+(y-z)=x-z from ring [x,y,z]] at this
theorem zc3 {a b c d:Re} (h:a<=b) (k:c<=d):a+c<=b+d:=zH [a,b,c,d] (pn (sn h) (sn k))
theorem zpD {a b c d:Re} (ha:0<=a) (h:a<=b) (hc:0<=c) (k:c<=d):a*c<=b*d:=
 zH [a,b,c,d] (pn (mn (sn h) (le_trans hc k)) (mn ha (sn k)))
theorem zuo {a c d:Re} (ha:0<=a) (k:c<=d):a*c<=a*d:=zH [a,c,d] (mn ha (sn k))
theorem zbp {x y a b:Re} (h:abs x<=a) (k:abs y<=b):abs (x*y)<=a*b:=by
 rw [znE];exact zpD (zcs x) h (zcs y) k
theorem zoI {x:Re} (h:abs x<=0):x=0:=by
 obtain ⟨a,b⟩:=zeT h
 exact le_antisymm b (zH [x] (sn a))
theorem zBz {e:Re} (h:0<e):0<e*rat (1/2):=mp h (qp _)
theorem zvM {x:Re} (h:∀e:Re,0<e->x<=e):x<=0:=by
 rcases lt_or_le 0 x with k|k
 ·have:=h _ (zBz k)
  exact absurd (zdo [x] (zBz k):x*rat (1/2)<x) this
 ·exact k
def Lim (s:Nat->Re) (x:Re):Prop:=∀e:Re,0<e->∃N,∀n,N<=n->abs (s n-x)<=e
theorem Lim.unique {s:Nat->Re} {x y:Re} (h:Lim s x) (k:Lim s y):x=y:=by
 refine zcy (zoI (zvM fun e he=>?_))
 obtain ⟨N,hN⟩:=h _ (zBz he)
 obtain ⟨M,hM⟩:=k _ (zBz he)
 have a:=hN (max N M) (by omega)
 have b:=hM (max N M) (by omega)
 generalize s (max N M)=z at *
 rw [zk6] at a
 have:=le_trans (zDG x z y) (zc3 a b)
 rwa [show e*rat (1/2)+e*rat (1/2)=e from ring [e]] at this
theorem Lim.const (x:Re):Lim (fun _=>x) x:=fun e he=>⟨0,fun n _=>by show abs (x-x)<=e;rw [show x-x=0 from ring [x],abs_zero];exact le_of_lt he⟩
theorem Lim.add {s t:Nat->Re} {x y:Re} (h:Lim s x) (k:Lim t y):Lim (fun n=>s n+t n) (x+y):=by
 intro e he
 obtain ⟨N,hN⟩:=h _ (zBz he)
 obtain ⟨M,hM⟩:=k _ (zBz he)
 refine ⟨max N M,fun n hn=>?_⟩
 have:=le_trans (zir (s n-x) (t n-y)) (zc3 (hN n (by omega)) (hM n (by omega)))
 show abs (s n+t n-(x+y))<=e
 generalize s n=u at *
 generalize t n=v at *
 rwa [show u-x+(v-y)=u+v-(x+y) from ring [u,v,x,y],show e*rat (1/2)+e*rat (1/2)=e from ring [e]] at this
theorem Lim.smul {s:Nat->Re} {x:Re} (c:Re) (h:Lim s x):Lim (fun n=>c*s n) (c*x):=by
 intro e he
 have h0:0<1+abs c:=ppn (qp 1) (zcs c)
 obtain ⟨N,hN⟩:=h (e/(1+abs c)) (zv7 he h0)
 refine ⟨N,fun n hn=>?_⟩
 have a:=hN n hn
 show abs (c*s n-c*x)<=e
 generalize s n=u at *
 rw [show c*u-c*x=c*(u-x) from ring [c,u,x],znE]
 rw [ztu h0] at a
 have b:=zcs (u-x)
 generalize abs (u-x)=p at *
 generalize abs c=q at *
 exact zH [e,p,q] (pn (sn a) b)
theorem Lim.congr {s t:Nat->Re} {x:Re} (h:Lim s x) (k:∀n,s n=t n):Lim t x:=by rwa [<- show s=t from funext k]
theorem Lim.neg {s:Nat->Re} {x:Re} (h:Lim s x):Lim (fun n=> - s n) (-x):=by
 have:=(h.smul (-1)).congr (t:=fun n=> - s n) (fun n=>by show -1*s n= - s n;generalize s n=u;exact ring [u])
 rwa [show -1*x= -x from ring [x]] at this
theorem Lim.sub {s t:Nat->Re} {x y:Re} (h:Lim s x) (k:Lim t y):Lim (fun n=>s n-t n) (x-y):=h.add k.neg
theorem Lim.le {s:Nat->Re} {x c:Re} (h:Lim s x) (k:∃M,∀n,M<=n->s n<=c):x<=c:=by
 have:x-c<=0:=zvM fun e he=>by
  obtain ⟨N,hN⟩:=h e he
  obtain ⟨M,hM⟩:=k
  have a:=(zeT (hN (max N M) (by omega))).1
  have b:=hM (max N M) (by omega)
  generalize s (max N M)=z at *
  exact zH [x,c,e,z] (pn (sn a) (sn b))
 exact zH [x,c] (sn this)
theorem Lim.ge {s:Nat->Re} {x c:Re} (h:Lim s x) (k:∃M,∀n,M<=n->c<=s n):c<=x:=by
 obtain ⟨M,hM⟩:=k
 have:=h.neg.le (c:= -c) ⟨M,fun n hn=>by have:=hM n hn;generalize s n=u at *;exact zH [u,c] (sn this)⟩
 exact zH [x,c] (sn this)
theorem Lim.absle {s:Nat->Re} {x c:Re} (h:Lim s x) (k:∃M,∀n,M<=n->abs (s n)<=c):abs x<=c:=by
 obtain ⟨M,hM⟩:=k
 exact zeU (h.ge ⟨M,fun n hn=>(zeT (hM n hn)).1⟩) (h.le ⟨M,fun n hn=>(zeT (hM n hn)).2⟩)
theorem Lim.tail {s:Nat->Re} {x:Re} (h:Lim s x) (k:Nat):Lim (fun n=>s (n+k)) x:=by
 intro e he
 obtain ⟨N,hN⟩:=h e he
 exact ⟨N,fun n hn=>hN (n+k) (by omega)⟩
theorem zun {k n:Nat} (h:k<=n):(rat (1/((n:Rat)+1)):Re)<=rat (1/((k:Rat)+1)):=by
 rw [zps]
 have h1:(k:Rat)<=(n:Rat):=Rat.natCast_le_natCast.2 h
 have h0:(0:Rat)<=(k:Rat):=Rat.natCast_nonneg
 have p1:0<(n:Rat)+1:=by grind
 have p2:0<(k:Rat)+1:=by grind
 refine Rat.le_of_mul_le_mul_right (c:=((n:Rat)+1)*((k:Rat)+1)) ?_ (Rat.mul_pos p1 p2)
 have e1:1/((n:Rat)+1)*((n:Rat)+1)=1:=Rat.div_mul_cancel (by grind)
 have e2:1/((k:Rat)+1)*((k:Rat)+1)=1:=Rat.div_mul_cancel (by grind)
 generalize 1/((n:Rat)+1)=p at *
 generalize 1/((k:Rat)+1)=q at *
 generalize (n:Rat)=n' at *
 generalize (k:Rat)=k' at *
 have f1:p*((n'+1)*(k'+1))=k'+1:=by grind
 have f2:q*((n'+1)*(k'+1))=n'+1:=by grind
 rw [f1,f2];grind
theorem zDr {e:Re} (he:0<e):∃n:Nat,rat (1/((n:Rat)+1))<=e:=by
 obtain ⟨n,hn⟩:=arch (1/e)
 refine ⟨n,?_⟩
 rw [div_lt he] at hn
 have h0:(0:Rat)<=(n:Rat):=Rat.natCast_nonneg
 have p1:0<(n:Rat)+1:=by grind
 have e1:rat (1/((n:Rat)+1))*rat ((n:Rat)+1)=1:=by
  rw [<- znA,Rat.div_mul_cancel (by grind)];rfl
 refine zfR (zAT p1) ?_
 rw [e1,zpt,show rat 1=(1:Re) from rfl]
 generalize rat (n:Rat)=r at *
 exact zH [r,e] (pn (le_of_lt (sp hn)) (le_of_lt he))
theorem complete {s:Nat->Re} (h:∀e:Re,0<e->∃N,∀m n,N<=m->N<=n->s m-s n<=e):∃x,Lim s x:=by
 have hq:∀n:Nat,∃q:Rat,s n-rat q<rat (1/((n:Rat)+1))/\rat q-s n<rat (1/((n:Rat)+1)):=fun n=>
  zJB (s n) (by have h0:(0:Rat)<=(n:Rat):=Rat.natCast_nonneg;exact div_pos (by decide) (by grind))
 let q:Nat->Rat:=fun n=>Classical.choose (hq n)
 have q1:∀n,s n-rat (q n)<rat (1/((n:Rat)+1)):=fun n=>(Classical.choose_spec (hq n)).1
 have q2:∀n,rat (q n)-s n<rat (1/((n:Rat)+1)):=fun n=>(Classical.choose_spec (hq n)).2
 generalize q=q at q1 q2
 have key:∀e:Re,0<e->∃N,∀m n,N<=m->N<=n->rat (q m)-rat (q n)<e:=by
  intro e he
  have he4:0<e*rat (1/4):=mp he (qp _)
  obtain ⟨N,hN⟩:=h _ he4
  obtain ⟨k,hk⟩:=zDr he4
  refine ⟨max N k,fun m n hm hn=>?_⟩
  have a:=hN m n (by omega) (by omega)
  have b1:=le_of_lt (q2 m)
  have b2:=le_of_lt (q1 n)
  have c1:=le_trans b1 (le_trans (zun (show k<=m by omega)) hk)
  have c2:=le_trans b2 (le_trans (zun (show k<=n by omega)) hk)
  generalize rat (q m)=u at *
  generalize rat (q n)=v at *
  generalize s m=x at *
  generalize s n=y at *
  exact zdo [u,v,x,y,e] (ppn he4 (pn (pn (sn c1) (sn c2)) (sn a)))
 have hc:Cau q:=by
  intro d hd
  obtain ⟨N,hN⟩:=key (rat d) (zAT hd)
  refine ⟨N,fun m n hm hn=>?_⟩
  have:=hN m n hm hn
  rw [sub_eq,<- zCz,<- zpt,zxY] at this
  grind
 refine ⟨mk ⟨q,hc⟩,fun e he=>?_⟩
 have he2:=zBz he
 -- a rational number below e / 2
 obtain ⟨j,hj⟩:=zDr he2
 have hjp:0<1/((j:Rat)+1):=by have h0:(0:Rat)<=(j:Rat):=Rat.natCast_nonneg;exact div_pos (by decide) (by grind)
 obtain ⟨N,hN⟩:=hc _ hjp
 obtain ⟨k,hk⟩:=zDr he2
 refine ⟨max N k,fun n hn=>?_⟩
 have l1:rat (q n)-mk ⟨q,hc⟩<=rat (1/((j:Rat)+1)):=by
  rintro ⟨f,hf,M,hM⟩
  have a:=hM (max N M) (by omega)
  have b:=hN n (max N M) (by omega) (by omega)
  simp only [CS.add,CS.neg,CS.con] at a
  grind
 have l2:mk ⟨q,hc⟩-rat (q n)<=rat (1/((j:Rat)+1)):=by
  rintro ⟨f,hf,M,hM⟩
  have a:=hM (max N M) (by omega)
  have b:=hN (max N M) n (by omega) (by omega)
  simp only [CS.add,CS.neg,CS.con] at a
  grind
 have m1:=le_trans l1 hj
 have m2:=le_trans l2 hj
 have c1:=le_trans (le_of_lt (q1 n)) (le_trans (zun (show k<=n by omega)) hk)
 have c2:=le_trans (le_of_lt (q2 n)) (le_trans (zun (show k<=n by omega)) hk)
 generalize mk ⟨q,hc⟩=L at *
 generalize rat (q n)=u at *
 generalize s n=x at *
 exact zeU (zH [x,L,u,e] (pn (sn m2) (sn c2))) (zH [x,L,u,e] (pn (sn m1) (sn c1)))
theorem zDT (n:Nat):(n:Rat)<=(2:Rat)^n:=by
 induction n with
 | zero=>decide
 | succ n ih=>
  rw [Rat.pow_succ,show ((n+1:Nat):Rat)=(n:Rat)+1 from Rat.natCast_add n 1]
  rcases n with _|n
  ·decide +kernel
  ·rw [show ((n+1:Nat):Rat)=(n:Rat)+1 from Rat.natCast_add n 1] at *
   have h0:(0:Rat)<=(n:Rat):=Rat.natCast_nonneg
   grind
open Classical in
def bis (f:Re->Re) (a b:Re):Nat->Re×Re
 | 0=>(a,b)
 | n+1=>let p:=bis f a b n;let m:=(p.1+p.2)*rat (1/2);if f m<=0 then (m,p.2) else (p.1,m)
theorem zzZ (f:Re->Re) (a b:Re) (n:Nat) (h:(bis f a b n).1<=(bis f a b n).2):
  (bis f a b n).1<=(bis f a b (n+1)).1/\(bis f a b (n+1)).2<=(bis f a b n).2/\(bis f a b (n+1)).1<=(bis f a b (n+1)).2 /\
   (bis f a b (n+1)).2-(bis f a b (n+1)).1=((bis f a b n).2-(bis f a b n).1)*rat (1/2):=by
 simp only [bis]
 generalize bis f a b n=p at *
 obtain ⟨u,v⟩:=p
 simp only at *
 have h2:=mn (sn h) (qn (1/2))
 by_cases k:f ((u+v)*rat (1/2))<=0
 ·rw [if_pos k];exact ⟨zH [u,v] h2,le_refl _,zH [u,v] h2,ring [u,v]⟩
 ·rw [if_neg k];exact ⟨le_refl _,zH [u,v] h2,zH [u,v] h2,ring [u,v]⟩
theorem zBO (f:Re->Re) {a b:Re} (h:a<=b) (n:Nat):(bis f a b n).1<=(bis f a b n).2:=by
 induction n with
 | zero=>exact h
 | succ n ih=>exact (zzZ f a b n ih).2.2.1
theorem zz0 (f:Re->Re) {a b:Re} (h:a<=b) (n m:Nat):(bis f a b n).1<=(bis f a b (n+m)).1/\(bis f a b (n+m)).2<=(bis f a b n).2:=by
 induction m with
 | zero=>exact ⟨le_refl _,le_refl _⟩
 | succ m ih=>
  have:=zzZ f a b (n+m) (zBO f h _)
  exact ⟨le_trans ih.1 this.1,le_trans this.2.1 ih.2⟩
theorem zIs (f:Re->Re) {a b:Re} (h:a<=b) (n:Nat):((bis f a b n).2-(bis f a b n).1)*rat ((2:Rat)^n)=b-a:=by
 induction n with
 | zero=>show (b-a)*rat 1=b-a;exact mul_one _
 | succ n ih=>
  rw [(zzZ f a b n (zBO f h n)).2.2.2,Rat.pow_succ,znA,<- ih]
  generalize (bis f a b n).2-(bis f a b n).1=w
  generalize rat ((2:Rat)^n)=t
  exact ring [w,t]
theorem zKj (f:Re->Re) {a b:Re} (ha:f a<=0) (hb:0<=f b) (n:Nat):f (bis f a b n).1<=0/\0<=f (bis f a b n).2:=by
 induction n with
 | zero=>exact ⟨ha,hb⟩
 | succ n ih=>
  simp only [bis]
  generalize bis f a b n=p at *
  by_cases k:f ((p.1+p.2)*rat (1/2))<=0
  ·rw [if_pos k];exact ⟨k,ih.2⟩
  ·rw [if_neg k];exact ⟨ih.1,le_of_lt (not_le.1 k)⟩
theorem zuz {f:Re->Re} {a b K:Re} (h:a<=b) (hK:0<=K) (hl:∀x y,a<=x->x<=b->a<=y->y<=b->abs (f x-f y)<=K*abs (x-y))
  (ha:f a<=0) (hb:0<=f b):∃c,a<=c/\c<=b/\f c=0:=by
 have hw:∀e:Re,0<e->∃N,∀n,N<=n->(bis f a b n).2-(bis f a b n).1<=e:=by
  intro e he
  obtain ⟨N,hN⟩:=arch ((b-a)/e)
  refine ⟨N,fun n hn=>?_⟩
  rw [div_lt he] at hN
  have h2:rat (N:Rat)<=rat ((2:Rat)^n):=zps.2 (Rat.le_trans (Rat.natCast_le_natCast.2 hn) (zDT n))
  have h3:=zIs f h n
  refine zfR (z:=rat ((2:Rat)^n)) (zAT (Rat.pow_pos (by decide))) ?_
  rw [h3]
  generalize rat ((2:Rat)^n)=t at *
  generalize rat (N:Rat)=r at *
  exact zH [e,t,r,a,b] (pn (le_of_lt (sp hN)) (mn (sn h2) (le_of_lt he)))
 have hc:∀e:Re,0<e->∃N,∀m n,N<=m->N<=n->(bis f a b m).1-(bis f a b n).1<=e:=by
  intro e he
  obtain ⟨N,hN⟩:=hw e he
  refine ⟨N,fun m n hm hn=>?_⟩
  have w:=hN N (Nat.le_refl N)
  obtain ⟨i,rfl⟩:=Nat.exists_eq_add_of_le hm
  obtain ⟨j,rfl⟩:=Nat.exists_eq_add_of_le hn
  have p:=zz0 f h N i
  have q:=zz0 f h N j
  have r:=zBO f h (N+i)
  generalize (bis f a b (N+i)).1=x1 at *
  generalize (bis f a b (N+i)).2=x2 at *
  generalize (bis f a b (N+j)).1=y1 at *
  generalize (bis f a b N).1=z1 at *
  generalize (bis f a b N).2=z2 at *
  exact zH [x1,x2,y1,z1,z2,e] (pn (pn (pn (sn r) (sn p.2)) (sn q.1)) (sn w))
 obtain ⟨c,hlim⟩:=complete hc
 have m0:∀n,a<=(bis f a b n).1/\(bis f a b n).2<=b:=fun n=>by have:=zz0 f h 0 n;rw [Nat.zero_add] at this;exact this
 have ca:a<=c:=hlim.ge ⟨0,fun n _=>(m0 n).1⟩
 have cb:c<=b:=hlim.le ⟨0,fun n _=>le_trans (zBO f h n) (m0 n).2⟩
 refine ⟨c,ca,cb,?_⟩
 have hK1:0<1+K:=ppn (qp 1) hK
 refine zoI (zvM fun e he=>?_)
 have he2:0<e/(1+K)*rat (1/2):=zBz (zv7 he hK1)
 have hee:e/(1+K)*(1+K)=e:=div_mul (ne_of_gt hK1)
 obtain ⟨N,hN⟩:=hlim _ he2
 obtain ⟨M,hM⟩:=hw _ he2
 have l1:abs ((bis f a b (max N M)).1-c)<=e/(1+K)*rat (1/2):=hN (max N M) (by omega)
 have l2:=hM (max N M) (by omega)
 have l3:=zBO f h (max N M)
 have l4:=zKj f ha hb (max N M)
 have l5:=m0 (max N M)
 have u1:=hl c (bis f a b (max N M)).1 ca cb l5.1 (le_trans l3 l5.2)
 have u2:=hl c (bis f a b (max N M)).2 ca cb (le_trans l5.1 l3) l5.2
 generalize (bis f a b (max N M)).1=x at *
 generalize (bis f a b (max N M)).2=y at *
 have v1:abs (c-x)<=e/(1+K):=by
  rw [zk6];generalize e/(1+K)=d at *;exact zH [abs (x-c),d] (pn (sn l1) (le_of_lt he2))
 have v2:abs (c-y)<=e/(1+K):=by
  have:=zDG c x y
  have t1:abs (x-y)=y-x:=by rw [zk6];exact zbm (sn l3)
  rw [t1,zk6 c x] at this
  generalize e/(1+K)=d at *
  generalize abs (c-y)=g at *
  generalize abs (x-c)=k at *
  exact zH [g,d,k,x,y] (pn (pn (sn this) (sn l1)) (sn l2))
 have w1:=zeT (le_trans u1 (zuo hK v1))
 have w2:=zeT (le_trans u2 (zuo hK v2))
 have hd:=le_of_lt (zv7 he hK1)
 generalize e/(1+K)=d at *
 generalize f c=fc at *
 generalize f x=fx at *
 generalize f y=fy at *
 rw [<- hee]
 exact zeU (zH [fc,fy,d,K] (pn (pn (sn w2.1) (sn l4.2)) hd)) (zH [fc,fx,d,K] (pn (pn (sn w1.2) (sn l4.1)) hd))
theorem zCv {x:Re} (h:0<=x):∃r,0<=r/\r*r=x:=by
 have hb:0<=1+x:=pn (qn 1) h
 obtain ⟨c,c1,c2,c3⟩:=zuz (f:=fun r=>r*r-x) (a:=0) (b:=1+x) (K:=2*(1+x)) hb (mn (qn 2) hb) (by
  intro u v u1 u2 v1 v2
  show abs (u*u-x-(v*v-x))<=_
  rw [show u*u-x-(v*v-x)=(u+v)*(u-v) from ring [u,v,x],znE,zbm (pn u1 v1)]
  have:=zcs (u-v)
  generalize abs (u-v)=w at *
  exact zH [u,v,w,x] (mn (pn (sn u2) (sn v2)) this)) (zH [x] h) (zH [x] (pn (pn (qn 1) h) (mn h h)))
 exact ⟨c,c1,zcy c3⟩
open Classical in
def sqrt (x:Re):Re:=if h:0<=x then choose (zCv h) else 0
theorem zgX (x:Re):0<=sqrt x:=by
 by_cases h:0<=x
 ·rw [sqrt,dif_pos h];exact (Classical.choose_spec (zCv h)).1
 ·rw [sqrt,dif_neg h];exact le_refl _
theorem zgj {x:Re} (h:0<=x):sqrt x*sqrt x=x:=by
 rw [sqrt,dif_pos h];exact (Classical.choose_spec (zCv h)).2
theorem zl0 {x y:Re} (hy:0<=y) (h:x*x<=y*y):x<=y:=by
 rcases lt_or_le y x with k|k
 ·have hx:=lt_of_le_of_lt hy k
  exact absurd (zdo [x,y] (mp (sp k) (ppn hx hy))) h
 ·exact k
theorem znV {x y:Re} (hy:0<=y) (h:x*x<y*y):x<y:=by
 rcases lt_or_le x y with k|k
 ·exact k
 ·exact absurd h (zpD hy k hy k)
theorem zI4 {x y:Re} (hx:0<=x) (hy:0<=y) (h:x*x=y*y):x=y:=le_antisymm (zl0 hy (le_of_eq h)) (zl0 hx (le_of_eq h.symm))
theorem zGt {x r:Re} (hr:0<=r) (h:r*r=x):sqrt x=r:=zI4 (zgX x) hr (by rw [zgj (h▸sqn r),h])
theorem sqrt_le {x y:Re} (hx:0<=x) (h:x<=y):sqrt x<=sqrt y:=zl0 (zgX y) (by rw [zgj hx,zgj (le_trans hx h)];exact h)
theorem zyZ {x:Re} (h:0<x):0<sqrt x:=by
 rcases le_iff.1 (zgX x) with k|k
 ·exact k
 ·have:=zgj (le_of_lt h)
  rw [<- k,zero_mul] at this
  exact absurd (this▸h) (lt_irrefl _)
end Go.Proofs.YtaoakfodkoifoaaGreat.An
namespace Go.Proofs.YtaoakfodkoifoaaGreat.An
theorem zrK (n:Nat):rat ((n+1:Nat):Rat)=rat (n:Rat)+1:=by
 rw [show ((n+1:Nat):Rat)=(n:Rat)+1 from Rat.natCast_add n 1,zpt];rfl
theorem zNE (n:Nat):0<=rat (n:Rat):=zD2 Rat.natCast_nonneg
theorem zHd {n:Nat} (h:0<n):0<rat (n:Rat):=zAT (Rat.natCast_pos.2 h)
theorem zEi {m n:Nat} (h:m<=n):rat (m:Rat)<=rat (n:Rat):=zps.2 (Rat.natCast_le_natCast.2 h)
theorem zQL {f:Re->Re} {a b K:Re} (h:a<=b) (hf:∀x y,a<=x->x<=y->y<=b->f x-f y<=K*((y-x)*(y-x))):f a<=f b:=by
 have key:∀n:Nat,0<n->(f a-f b)*rat n<=K*((b-a)*(b-a)):=by
  intro n hn
  have hp:=zHd hn
  have hd:(b-a)/rat (n:Rat)*rat n=b-a:=div_mul (ne_of_gt hp)
  have h0:0<=(b-a)/rat (n:Rat):=zFW (sn h) hp
  generalize (b-a)/rat (n:Rat)=d at *
  have st:∀i:Nat,i<=n->(f a-f (a+rat i*d))<=rat i*(K*(d*d)):=by
   intro i
   induction i with
   | zero=>
    intro _
    have e:a+rat ((0:Nat):Rat)*d=a:=by show a+rat 0*d=a;exact ring [a,d]
    rw [e]
    show f a-f a<=rat 0*(K*(d*d))
    generalize f a=u
    exact le_of_eq (ring [u,K,d])
   | succ i ih=>
    intro hi
    have i1:=ih (by omega)
    have hi2:=zEi hi
    rw [zrK] at *
    have i0:=zNE i
    generalize rat (i:Rat)=r at *
    generalize rat (n:Rat)=t at *
    have:=hf (a+r*d) (a+(r+1)*d) (zH [a,r,d] (mn i0 h0)) (zH [a,r,d] h0) (by
     have e:b=a+t*d:=by rw [show a+t*d=a+d*t from ring [a,t,d],hd];exact ring [a,b]
     rw [e];exact zH [a,r,d,t] (mn (sn hi2) h0))
    generalize f (a+r*d)=u at *
    generalize f (a+(r+1)*d)=v at *
    generalize f a=w at *
    rw [show a+(r+1)*d-(a+r*d)=d from ring [a,r,d]] at this
    exact zH [u,v,w,r,K,d] (pn (sn this) (sn i1))
  have l:=st n (Nat.le_refl n)
  generalize rat (n:Rat)=t at *
  have e:a+t*d=b:=by rw [show a+t*d=a+d*t from ring [a,t,d],hd];exact ring [a,b]
  rw [e] at l
  rw [<- hd]
  generalize f a-f b=w at *
  exact zH [w,t,K,d] (mn (sn l) (le_of_lt hp))
 have:=zHx key
 exact zBw.2 (zH [f a,f b] (sn this))
def Der (a b:Re) (f g:Re->Re):Prop:=∃K,0<=K/\∀x y,a<=x->x<=b->a<=y->y<=b->abs (f y-f x-g x*(y-x))<=K*((y-x)*(y-x))
theorem Der.sub {a b c d:Re} {f g:Re->Re} (h:Der a b f g) (h1:a<=c) (h2:d<=b):Der c d f g:=by
 obtain ⟨K,k0,hK⟩:=h
 exact ⟨K,k0,fun x y x1 x2 y1 y2=>hK x y (le_trans h1 x1) (le_trans x2 h2) (le_trans h1 y1) (le_trans y2 h2)⟩
theorem Der.congr {a b:Re} {f g f' g':Re->Re} (h:Der a b f g) (h1:∀x,a<=x->x<=b->f x=f' x) (h2:∀x,a<=x->x<=b->g x=g' x):Der a b f' g':=by
 obtain ⟨K,k0,hK⟩:=h
 exact ⟨K,k0,fun x y x1 x2 y1 y2=>by rw [<- h1 x x1 x2,<- h1 y y1 y2,<- h2 x x1 x2];exact hK x y x1 x2 y1 y2⟩
theorem Der.mono {a b:Re} {f g:Re->Re} (h:Der a b f g) (hg:∀x,a<=x->x<=b->0<=g x) (hab:a<=b):f a<=f b:=by
 obtain ⟨K,k0,hK⟩:=h
 refine zQL (K:=K) hab fun x y x1 xy y2=>?_
 have:=(zeT (hK x y x1 (le_trans xy y2) (le_trans x1 xy) y2)).1
 have p:=mn (hg x x1 (le_trans xy y2)) (sn xy)
 generalize f x=u at *
 generalize f y=v at *
 generalize g x=w at *
 exact zH [u,v,w,x,y,K] (pn (sn this) p)
theorem Der.neg {a b:Re} {f g:Re->Re} (h:Der a b f g):Der a b (fun x=> - f x) (fun x=> - g x):=by
 obtain ⟨K,k0,hK⟩:=h
 refine ⟨K,k0,fun x y x1 x2 y1 y2=>?_⟩
 have:=hK x y x1 x2 y1 y2
 rw [<- abs_neg] at this
 show abs (-f y - -f x - -g x*(y-x))<=_
 generalize f x=u at *
 generalize f y=v at *
 generalize g x=w at *
 rwa [show -(v-u-w*(y-x))= -v - -u - -w*(y-x) from ring [u,v,w,x,y]] at this
theorem Der.add {a b:Re} {f g f' g':Re->Re} (h:Der a b f g) (k:Der a b f' g'):Der a b (fun x=>f x+f' x) (fun x=>g x+g' x):=by
 obtain ⟨K,k0,hK⟩:=h
 obtain ⟨L,l0,hL⟩:=k
 refine ⟨K+L,pn k0 l0,fun x y x1 x2 y1 y2=>?_⟩
 have h1:=le_trans (zir _ _) (zc3 (hK x y x1 x2 y1 y2) (hL x y x1 x2 y1 y2))
 show abs (f y+f' y-(f x+f' x)-(g x+g' x)*(y-x))<=_
 generalize f x=u at *
 generalize f y=v at *
 generalize g x=w at *
 generalize f' x=u' at *
 generalize f' y=v' at *
 generalize g' x=w' at *
 rwa [show v-u-w*(y-x)+(v'-u'-w'*(y-x))=v+v'-(u+u')-(w+w')*(y-x) from ring [u,v,w,u',v',w',x,y],
  show K*((y-x)*(y-x))+L*((y-x)*(y-x))=(K+L)*((y-x)*(y-x)) from ring [x,y,K,L]] at h1
theorem Der.const (a b c:Re):Der a b (fun _=>c) (fun _=>0):=⟨0,le_refl _,fun x y _ _ _ _=>by
 rw [show c-c-0*(y-x)=0 from ring [c,x,y],abs_zero];exact zH [x,y] (le_refl 0)⟩
theorem Der.id (a b:Re):Der a b (fun x=>x) (fun _=>1):=⟨0,le_refl _,fun x y _ _ _ _=>by
 rw [show y-x-1*(y-x)=0 from ring [x,y],abs_zero];exact zH [x,y] (le_refl 0)⟩
theorem Der.smul {a b:Re} {f g:Re->Re} (c:Re) (h:Der a b f g):Der a b (fun x=>c*f x) (fun x=>c*g x):=by
 obtain ⟨K,k0,hK⟩:=h
 refine ⟨abs c*K,mn (zcs c) k0,fun x y x1 x2 y1 y2=>?_⟩
 have:=zuo (zcs c) (hK x y x1 x2 y1 y2)
 show abs (c*f y-c*f x-c*g x*(y-x))<=_
 rw [<- znE,<- mul_assoc] at this
 generalize f x=u at *
 generalize f y=v at *
 generalize g x=w at *
 rwa [show c*(v-u-w*(y-x))=c*v-c*u-c*w*(y-x) from ring [c,u,v,w,x,y]] at this
theorem Der.bdd {a b:Re} {f g:Re->Re} (h:Der a b f g) (hab:a<=b):∃L,0<=L/\(∀x,a<=x->x<=b->abs (g x)<=L):=by
 obtain ⟨K,k0,hK⟩:=h
 refine ⟨abs (g a)+2*K*(b-a),pn (zcs _) (mn (mn (qn 2) k0) (sn hab)),fun x x1 x2=>?_⟩
 rcases le_iff.1 x1 with k|k
 ·have h1:=hK a x (le_refl a) hab x1 x2
  have h2:=hK x a x1 x2 (le_refl a) hab
  have h3:=le_trans (zir _ _) (zc3 h1 h2)
  have hp:=sp k
  have e:abs (g x-g a)<=2*K*(x-a):=by
   refine zfR hp ?_
   have e1:abs (g x-g a)*(x-a)=abs ((g x-g a)*(x-a)):=by rw [znE,zbm (le_of_lt hp)]
   rw [e1]
   generalize f x=u at *
   generalize f a=v at *
   generalize g x=w at *
   generalize g a=t at *
   rwa [show u-v-t*(x-a)+(v-u-w*(a-x))=(w-t)*(x-a) from ring [u,v,w,t,x,a],
    show K*((x-a)*(x-a))+K*((a-x)*(a-x))=2*K*(x-a)*(x-a) from ring [x,a,K]] at h3
  have t:=zir (g a) (g x-g a)
  rw [show g a+(g x-g a)=g x from by generalize g x=u;generalize g a=v;exact ring [u,v]] at t
  generalize abs (g x)=p at *
  generalize abs (g a)=q at *
  generalize abs (g x-g a)=r at *
  exact zH [p,q,r,a,b,x,K] (pn (pn (sn t) (sn e)) (mn (mn (qn 2) k0) (sn x2)))
 ·subst k
  generalize abs (g a)=q at *
  exact zH [q,K,a,b] (mn (mn (qn 2) k0) (sn hab))
theorem Der.lip {a b:Re} {f g:Re->Re} (h:Der a b f g) (hab:a<=b):∃L,0<=L/\∀x y,a<=x->x<=b->a<=y->y<=b->abs (f x-f y)<=L*abs (x-y):=by
 obtain ⟨M,m0,hM⟩:=h.bdd hab
 obtain ⟨K,k0,hK⟩:=h
 refine ⟨M+K*(b-a),pn m0 (mn k0 (sn hab)),fun x y x1 x2 y1 y2=>?_⟩
 have h1:=hK y x y1 y2 x1 x2
 have h2:=zir (f x-f y-g y*(x-y)) (g y*(x-y))
 rw [znE] at h2
 have h3:=hM y y1 y2
 have h4:abs (x-y)<=b-a:=zeU (zH [x,y,a,b] (pn (sn x1) (sn y2))) (zH [x,y,a,b] (pn (sn x2) (sn y1)))
 rw [<- zr2] at h1
 rw [show f x-f y-g y*(x-y)+g y*(x-y)=f x-f y from by generalize f x=u;generalize f y=v;generalize g y=w;exact ring [u,v,w,x,y]] at h2
 have h5:=zcs (x-y)
 generalize abs (f x-f y-g y*(x-y))=p at *
 generalize abs (f x-f y)=q at *
 generalize abs (x-y)=d at *
 generalize abs (g y)=w at *
 exact zH [p,q,d,w,M,K,a,b] (pn (pn (sn h2) (sn h1)) (pn (mn (sn h3) h5) (mn (mn k0 h5) (sn h4))))
theorem Der.fbdd {a b:Re} {f g:Re->Re} (h:Der a b f g) (hab:a<=b):∃L,0<=L/\(∀x,a<=x->x<=b->abs (f x)<=L):=by
 obtain ⟨M,m0,hM⟩:=h.lip hab
 refine ⟨abs (f a)+M*(b-a),pn (zcs _) (mn m0 (sn hab)),fun x x1 x2=>?_⟩
 have h1:=hM x a x1 x2 (le_refl a) hab
 have h2:=zir (f a) (f x-f a)
 rw [show f a+(f x-f a)=f x from by generalize f x=u;generalize f a=v;exact ring [u,v]] at h2
 rw [zbm (sn x1)] at h1
 generalize abs (f x)=p at *
 generalize abs (f a)=q at *
 generalize abs (f x-f a)=r at *
 exact zH [p,q,r,M,a,b,x] (pn (pn (sn h2) (sn h1)) (mn m0 (sn x2)))
theorem Der.mul {a b:Re} {f g f' g':Re->Re} (h:Der a b f g) (k:Der a b f' g') (hab:a<=b):Der a b (fun x=>f x*f' x) (fun x=>g x*f' x+f x*g' x):=by
 obtain ⟨A,a0,hA⟩:=h.fbdd hab
 obtain ⟨B,b0,hB⟩:=k.fbdd hab
 obtain ⟨C,c0,hC⟩:=h.lip hab
 obtain ⟨D,d0,hD⟩:=k.lip hab
 obtain ⟨K,k0,hK⟩:=h
 obtain ⟨L,l0,hL⟩:=k
 refine ⟨B*K+A*L+C*D,pn (pn (mn b0 k0) (mn a0 l0)) (mn c0 d0),fun x y x1 x2 y1 y2=>?_⟩
 have p1:=zbp (hB x x1 x2) (hK x y x1 x2 y1 y2)
 have p2:=zbp (hA x x1 x2) (hL x y x1 x2 y1 y2)
 have p3:=zbp (hC y x y1 y2 x1 x2) (hD y x y1 y2 x1 x2)
 have q:=le_trans (zir _ _) (zc3 (le_trans (zir _ _) (zc3 p1 p2)) p3)
 show abs (f y*f' y-f x*f' x-(g x*f' x+f x*g' x)*(y-x))<=_
 have e3:=zr2 (y-x)
 generalize abs (y-x)=d at *
 generalize f x=u at *
 generalize f y=v at *
 generalize g x=w at *
 generalize f' x=u' at *
 generalize f' y=v' at *
 generalize g' x=w' at *
 rw [show u'*(v-u-w*(y-x))+u*(v'-u'-w'*(y-x))+(v-u)*(v'-u')=v*v'-u*u'-(w*u'+u*w')*(y-x) from ring [u,v,w,u',v',w',x,y]] at q
 refine le_trans q (le_of_eq ?_)
 rw [<- e3]
 exact ring [A,B,C,D,K,L,d]
theorem Der.zero {a b:Re} {f:Re->Re} (h:Der a b f (fun _=>0)) (hab:a<=b):f b=f a:=by
 have h1:=h.mono (fun _ _ _=>le_refl 0) hab
 have h2:=h.neg.mono (fun _ _ _=>zH [] (le_refl 0)) hab
 exact le_antisymm (zH [f a,f b] (sn h2)) h1
theorem Der.le {a b:Re} {f g f' g':Re->Re} (h:Der a b f g) (k:Der a b f' g') (hab:a<=b) (hg:∀x,a<=x->x<=b->g x<=g' x):f b-f a<=f' b-f' a:=by
 have:=(k.add h.neg).mono (fun x x1 x2=>zH [g x,g' x] (sn (hg x x1 x2))) hab
 exact zH [f a,f b,f' a,f' b] (sn this)
end Go.Proofs.YtaoakfodkoifoaaGreat.An
namespace Go.Proofs.YtaoakfodkoifoaaGreat.An
def mon (x:Re):Nat->Re
 | 0=>1
 | n+1=>mon x n*x*rat (1/((n+1:Nat):Rat))
theorem zzI (n:Nat):rat ((n+1:Nat):Rat)*rat (1/((n+1:Nat):Rat))=1:=by
 have h:(0:Rat)<((n+1:Nat):Rat):=Rat.natCast_pos.2 (Nat.succ_pos n)
 rw [<- znA,Rat.mul_comm,Rat.div_mul_cancel (by grind)];rfl
theorem zrM (x:Re) (n:Nat):rat ((n+1:Nat):Rat)*mon x (n+1)=mon x n*x:=by
 have:=zzI n
 simp only [mon]
 generalize rat ((n+1:Nat):Rat)=a at *
 generalize rat (1/((n+1:Nat):Rat))=b at *
 generalize mon x n=m
 exact zkl [a,b,m,x] (congrArg (fun t=>m*x*t) this:m*x*(a*b)=m*x*1)
theorem zBx (n:Nat):0<rat (1/((n+1:Nat):Rat)):=by
 have h:(0:Rat)<((n+1:Nat):Rat):=Rat.natCast_pos.2 (Nat.succ_pos n)
 exact zAT (div_pos (by decide) h)
theorem zx6 {M:Re} (h:0<=M) (n:Nat):0<=mon M n:=by
 induction n with
 | zero=>exact qn 1
 | succ n ih=>exact mn (mn ih h) (le_of_lt (zBx n))
theorem zHj {x M:Re} (h:abs x<=M) (n:Nat):abs (mon x n)<=mon M n:=by
 induction n with
 | zero=>exact le_of_eq (zbm (qn 1))
 | succ n ih=>
  have:=zBx n
  exact zbp (zbp ih h) (le_of_eq (zbm (le_of_lt this)))
theorem zEo {M:Re} (h:0<=M) {k n:Nat} (hk:2*M<=rat ((k+1:Nat):Rat)) (hn:k<=n):mon M (n+1)<=mon M n*rat (1/2):=by
 have h1:=zrM M n
 have h2:rat ((k+1:Nat):Rat)<=rat ((n+1:Nat):Rat):=zEi (by omega)
 have h3:=zx6 h n
 have h4:0<rat ((n+1:Nat):Rat):=zHd (Nat.succ_pos n)
 refine zfR h4 ?_
 rw [mul_comm,h1]
 generalize rat ((n+1:Nat):Rat)=t at *
 generalize rat ((k+1:Nat):Rat)=s at *
 generalize mon M n=m at *
 exact zH [m,M,s,t] (mn (mn h3 (pn (sn hk) (sn h2))) (qn (1/2)))
theorem zHi {M:Re} (h:0<=M) {k:Nat} (hk:2*M<=rat ((k+1:Nat):Rat)) {e:Re} (he:0<e):∃N,k<=N/\mon M N<=e:=by
 have hp:∀j,mon M (k+j)*rat ((2:Rat)^j)<=mon M k:=by
  intro j
  induction j with
  | zero=>exact le_of_eq (mul_one _)
  | succ j ih=>
   have:=zEo h hk (show k<=k+j by omega)
   rw [Rat.pow_succ,znA]
   have hp:0<rat ((2:Rat)^j):=zAT (Rat.pow_pos (by decide))
   show mon M (k+j+1)*_<=_
   generalize rat ((2:Rat)^j)=t at *
   generalize mon M (k+j)=u at *
   generalize mon M (k+j+1)=v at *
   generalize mon M k=w at *
   exact zH [t,u,v,w] (pn (sn ih) (mn (mn (sn this) (le_of_lt hp)) (qn 2)))
 obtain ⟨j,hj⟩:=arch (mon M k/e)
 rw [div_lt he] at hj
 refine ⟨k+j,by omega,?_⟩
 have h2:rat (j:Rat)<=rat ((2:Rat)^j):=zps.2 (zDT j)
 have h3:=hp j
 have h4:0<rat ((2:Rat)^j):=zAT (Rat.pow_pos (by decide))
 refine zfR h4 ?_
 generalize rat ((2:Rat)^j)=t at *
 generalize rat (j:Rat)=r at *
 generalize mon M (k+j)=u at *
 generalize mon M k=w at *
 exact zH [t,u,w,r,e] (pn (pn (sn h3) (le_of_lt (sp hj))) (mn (sn h2) (le_of_lt he)))
def Co (c:Nat->Rat):Prop:=∀n,abs (rat (c n))<=1
def psum (c:Nat->Rat) (x:Re):Nat->Re
 | 0=>0
 | n+1=>psum c x n+rat (c n)*mon x n
theorem zvx (c:Nat->Rat) (x:Re) (n:Nat):psum c x (n+1)=psum c x n+rat (c n)*mon x n:=rfl
theorem zGP {c:Nat->Rat} (hc:Co c) {x M:Re} (hx:abs x<=M) {i:Nat} (hi:2*M<=rat ((i+1:Nat):Rat)) (j:Nat):
  abs (psum c x (i+j)-psum c x i)+2*mon M (i+j)<=2*mon M i:=by
 have hM:=le_trans (zcs x) hx
 induction j with
 | zero=>
  show abs (psum c x i-psum c x i)+2*mon M i<=_
  rw [show psum c x i-psum c x i=0 from by generalize psum c x i=u;exact ring [u],abs_zero,zero_add];exact le_refl _
 | succ j ih=>
  have h1:=zEo hM hi (show i<=i+j by omega)
  have h2:=zbp (hc (i+j)) (zHj hx (i+j))
  have h3:=zir (psum c x (i+j)-psum c x i) (rat (c (i+j))*mon x (i+j))
  show abs (psum c x (i+j)+rat (c (i+j))*mon x (i+j)-psum c x i)+2*mon M (i+j+1)<=_
  generalize rat (c (i+j))*mon x (i+j)=t at *
  generalize psum c x (i+j)=u at *
  generalize psum c x i=v at *
  rw [show u-v+t=u+t-v from ring [u,v,t]] at h3
  generalize abs (u+t-v)=A at *
  generalize abs (u-v)=B at *
  generalize abs t=C at *
  generalize mon M (i+j+1)=m2 at *
  generalize mon M (i+j)=m1 at *
  generalize mon M i=m0 at *
  exact zH [A,B,C,m0,m1,m2] (pn (pn (pn (sn h3) (sn h2)) (sn ih)) (mn (qn 2) (sn h1)))
theorem zp4 {c:Nat->Rat} (hc:Co c) {x M:Re} (hx:abs x<=M) {i n:Nat} (hi:2*M<=rat ((i+1:Nat):Rat)) (hn:i<=n):
  abs (psum c x n-psum c x i)<=2*mon M i:=by
 obtain ⟨j,rfl⟩:=Nat.exists_eq_add_of_le hn
 have h1:=zGP hc hx hi j
 have h2:=zx6 (le_trans (zcs x) hx) (i+j)
 generalize abs (psum c x (i+j)-psum c x i)=A at *
 generalize mon M (i+j)=m1 at *
 generalize mon M i=m0 at *
 exact zH [A,m0,m1] (pn (sn h1) (mn (qn 2) h2))
theorem big (M:Re):∃k:Nat,2*M<=rat ((k+1:Nat):Rat):=by
 obtain ⟨k,hk⟩:=arch (2*M)
 exact ⟨k,le_trans (le_of_lt hk) (zEi (by omega))⟩
theorem zKB {c:Nat->Rat} (hc:Co c) (x:Re):∃L,Lim (psum c x) L:=by
 obtain ⟨k,hk⟩:=big (abs x)
 refine complete fun e he=>?_
 obtain ⟨N,hN,hm⟩:=zHi (zcs x) hk (mp he (qp (1/4)))
 have hN2:2*abs x<=rat ((N+1:Nat):Rat):=le_trans hk (zEi (by omega))
 refine ⟨N,fun m n hm' hn'=>?_⟩
 have a:=(zeT (zp4 hc (le_refl (abs x)) hN2 hm')).2
 have b:=(zeT (zp4 hc (le_refl (abs x)) hN2 hn')).1
 generalize psum c x m=u at *
 generalize psum c x n=v at *
 generalize psum c x N=w at *
 generalize mon (abs x) N=t at *
 exact zH [u,v,w,t,e] (pn (pn (sn a) (sn b)) (mn (qn 4) (sn hm)))
open Classical in
def ser (c:Nat->Rat) (x:Re):Re:=if h:∃L,Lim (psum c x) L then choose h else 0
theorem zqT {c:Nat->Rat} (hc:Co c) (x:Re):Lim (psum c x) (ser c x):=by
 rw [ser,dif_pos (zKB hc x)];exact Classical.choose_spec (zKB hc x)
theorem zy8 {c:Nat->Rat} (hc:Co c) {x M:Re} (hx:abs x<=M) {i:Nat} (hi:2*M<=rat ((i+1:Nat):Rat)):abs (ser c x-psum c x i)<=2*mon M i:=
 ((zqT hc x).sub (Lim.const (psum c x i))).absle ⟨i,fun n hn=>zp4 hc hx hi hn⟩
theorem zy7 {c:Nat->Rat} (hc:Co c):ser c 0=rat (c 0):=by
 refine (zqT hc 0).unique fun e he=>⟨1,fun n hn=>?_⟩
 have:∀n,psum c 0 (n+1)=rat (c 0):=by
  intro n
  induction n with
  | zero=>show 0+rat (c 0)*1=_;generalize rat (c 0)=r;exact ring [r]
  | succ n ih=>
   rw [zvx,ih]
   show rat (c 0)+rat (c (n+1))*(mon 0 n*0*_)=_
   rw [mul_zero,zero_mul,mul_zero,add_zero]
 obtain ⟨m,rfl⟩:∃m,n=m+1:=⟨n-1,by omega⟩
 rw [this,show rat (c 0)-rat (c 0)=0 from by generalize rat (c 0)=r;exact ring [r],abs_zero]
 exact le_of_lt he
def sh (c:Nat->Rat):Nat->Rat:=fun n=>c (n+1)
theorem Co.sh {c:Nat->Rat} (h:Co c):Co (sh c):=fun n=>h (n+1)
theorem zLz {c d:Nat->Rat} (hc:Co c) (hd:Co d) (h:∀n,d n= - c n) (x:Re):ser d x= - ser c x:=by
 have:∀n,psum d x n= - psum c x n:=by
  intro n
  induction n with
  | zero=>show (0:Re)= -0;exact ring []
  | succ n ih=>
   rw [zvx,zvx,ih,h n,zCz]
   generalize psum c x n=u;generalize rat (c n)=r;generalize mon x n=m
   exact ring [u,r,m]
 exact (zqT hd x).unique ((zqT hc x).neg.congr fun n=>(this n).symm)
theorem zQM {x y M:Re} (hx:abs x<=M) (hy:abs y<=M) (n:Nat):
  abs (mon y (n+2)-mon x (n+2)-mon x (n+1)*(y-x))<=mon M n*((y-x)*(y-x)):=by
 have hM:=le_trans (zcs x) hx
 induction n with
 | zero=>
  have e:mon y 2-mon x 2-mon x 1*(y-x)=(y-x)*(y-x)*rat (1/2):=by
   have a:∀z,mon z 2=z*z*rat (1/2):=fun z=>by
    show 1*z*rat (1/((1:Nat):Rat))*z*rat (1/((2:Nat):Rat))=_
    exact ring [z]
   have b:mon x 1=x:=by show 1*x*rat (1/((1:Nat):Rat))=x;exact ring [x]
   rw [a,a,b];exact ring [x,y]
  rw [e,zbm (mn (sqn _) (qn _))]
  show _<=1*_
  have:=sqn (y-x)
  generalize (y-x)*(y-x)=q at *
  exact zH [q] (mn this (qn (1/2)))
 | succ n ih=>
  have h1:=zrM y (n+2)
  have h2:=zrM x (n+2)
  have h3:=zrM x (n+1)
  have h4:=zrM M n
  have e3:rat ((n+1+1:Nat):Rat)=rat ((n+1:Nat):Rat)+1:=zrK (n+1)
  have e2:rat ((n+2+1:Nat):Rat)=rat ((n+1:Nat):Rat)+2:=by rw [show (n+2+1:Nat)=(n+1+1)+1 from rfl,zrK,zrK (n+1)];generalize rat ((n+1:Nat):Rat)=t;exact ring [t]
  have hk:0<rat ((n+1:Nat):Rat):=zHd (Nat.succ_pos n)
  have hd:=sqn (y-x)
  have hm1:=zHj hx (n+1)
  have hm0:=zx6 hM n
  have hmm:=zx6 hM (n+1)
  have b1:=zbp hy ih
  have b2:=zbp hm1 (le_of_eq (zbm hd))
  have b3:=le_trans (zir _ _) (zc3 b1 b2)
  rw [e2] at h1 h2
  rw [e3] at h3
  show abs (mon y (n+2+1)-mon x (n+2+1)-mon x (n+1+1)*(y-x))<=mon M (n+1)*_
  generalize mon y (n+2+1)=y3 at *
  generalize mon x (n+2+1)=x3 at *
  generalize mon y (n+2)=y2 at *
  generalize mon x (n+2)=x2 at *
  generalize mon x (n+1)=x1 at *
  generalize mon M (n+1)=m1 at *
  generalize mon M n=m0 at *
  generalize rat ((n+1:Nat):Rat)=k at *
  have hk2:0<k+2:=pp hk (qp 2)
  refine zfR hk2 ?_
  have e4:abs (y3-x3-x2*(y-x))*(k+2)=abs (y*(y2-x2-x1*(y-x))+x1*((y-x)*(y-x))):=by
   rw [show abs (y3-x3-x2*(y-x))*(k+2)=abs (y3-x3-x2*(y-x))*abs (k+2) from by rw [zbm (le_of_lt hk2)],<- znE]
   congr 1
   refine zcy ?_
   rw [show (y3-x3-x2*(y-x))*(k+2)-(y*(y2-x2-x1*(y-x))+x1*((y-x)*(y-x)))=((k+2)*y3-y2*y)-((k+2)*x3-x2*x)-(y-x)*((k+1)*x2-x1*x) from ring [x,y,x1,x2,x3,y2,y3,k],h1,h2,h3]
   exact ring [x,y,x1,x2,y2]
  rw [e4]
  refine le_trans b3 ?_
  generalize (y-x)*(y-x)=q at *
  rw [show M*(m0*q)=(m0*M)*q from ring [M,m0,q],<- h4]
  exact zH [k,m1,q] (mn hmm hd)
def one:Nat->Rat:=fun _=>1
theorem zGZ:Co one:=fun n=>le_of_eq (zbm (qn 1))
theorem zJk {M:Re} (h:0<=M):∃B,0<=B/\∀N,psum one M N<=B:=by
 obtain ⟨k,hk⟩:=big M
 have up:∀N j,psum one M N<=psum one M (N+j):=by
  intro N j
  induction j with
  | zero=>exact le_refl _
  | succ j ih=>
   refine le_trans ih ?_
   have:=zx6 h (N+j)
   show _<=psum one M (N+j)+1*mon M (N+j)
   generalize mon M (N+j)=u at *;generalize psum one M (N+j)=v at *
   exact zH [u,v] this
 refine ⟨abs (psum one M k)+2*mon M k,pn (zcs _) (mn (qn 2) (zx6 h k)),fun N=>?_⟩
 have h1:=up N k
 have h2:=(zeT (zp4 zGZ (le_of_eq (zbm h)) hk (show k<=N+k by omega))).2
 have h3:=zqz (psum one M k)
 generalize psum one M N=u at *;generalize psum one M (N+k)=v at *;generalize abs (psum one M k)=w at *;generalize psum one M k=t at *;generalize mon M k=m at *
 exact zH [u,v,w,t,m] (pn (pn (sn h1) (sn h2)) (sn h3))
theorem zNw {c:Nat->Rat} (hc:Co c) {x y M:Re} (hx:abs x<=M) (hy:abs y<=M) (N:Nat):
  abs (psum c y (N+2)-psum c x (N+2)-psum (sh c) x (N+1)*(y-x))<=psum one M N*((y-x)*(y-x)):=by
 induction N with
 | zero=>
  have a:∀z,psum c z 2=rat (c 0)+rat (c 1)*z:=fun z=>by
   show 0+rat (c 0)*1+rat (c 1)*(1*z*rat (1/((1:Nat):Rat)))=_
   generalize rat (c 0)=u;generalize rat (c 1)=v;exact ring [u,v,z]
  have b:psum (sh c) x 1=rat (c 1):=by
   show 0+rat (c 1)*1=_
   generalize rat (c 1)=v;exact ring [v]
  rw [a,a,b]
  show _<=0*_
  generalize rat (c 0)=u;generalize rat (c 1)=v
  rw [show u+v*y-(u+v*x)-v*(y-x)=0 from ring [u,v,x,y],abs_zero]
  exact zH [x,y] (le_refl 0)
 | succ N ih=>
  have h1:=zQM hx hy N
  have h2:=zbp (hc (N+2)) h1
  have h3:=le_trans (zir _ _) (zc3 ih h2)
  show abs (psum c y (N+2)+rat (c (N+2))*mon y (N+2)-(psum c x (N+2)+rat (c (N+2))*mon x (N+2))-(psum (sh c) x (N+1)+rat (c (N+2))*mon x (N+1))*(y-x))<=(psum one M N+1*mon M N)*_
  generalize rat (c (N+2))=r at *;generalize mon y (N+2)=y2 at *;generalize mon x (N+2)=x2 at *;generalize mon x (N+1)=x1 at *
  generalize psum c y (N+2)=u at *;generalize psum c x (N+2)=v at *;generalize psum (sh c) x (N+1)=w at *
  rw [show u-v-w*(y-x)+r*(y2-x2-x1*(y-x))=u+r*y2-(v+r*x2)-(w+r*x1)*(y-x) from ring [u,v,w,r,y2,x2,x1,x,y]] at h3
  refine le_trans h3 (le_of_eq ?_)
  generalize psum one M N=p;generalize mon M N=q
  exact ring [p,q,x,y]
theorem zLA {c:Nat->Rat} (hc:Co c) (a b:Re):Der a b (ser c) (ser (sh c)):=by
 let M:=abs a+abs b
 have hM:0<=M:=pn (zcs a) (zcs b)
 obtain ⟨B,b0,hB⟩:=zJk hM
 refine ⟨B,b0,fun x y x1 x2 y1 y2=>?_⟩
 have inM:∀z,a<=z->z<=b->abs z<=M:=fun z z1 z2=>by
  have h1:=zqz b;have h2:=zjk a;have h3:=zcs a;have h4:=zcs b
  show abs z<=abs a+abs b
  generalize abs a=p at *;generalize abs b=q at *
  exact zeU (zH [p,q,z,a] (pn (pn (sn h2) (sn z1)) h4)) (zH [p,q,z,b] (pn (pn (sn h1) (sn z2)) h3))
 have hx:=inM x x1 x2
 have hy:=inM y y1 y2
 have l:=(((zqT hc y).tail 2).sub ((zqT hc x).tail 2)).sub (((zqT hc.sh x).tail 1).smul (y-x))
 rw [show ser c y-ser c x-(y-x)*ser (sh c) x=ser c y-ser c x-ser (sh c) x*(y-x) from by generalize ser c y=u;generalize ser c x=v;generalize ser (sh c) x=w;exact ring [u,v,w,x,y]] at l
 refine l.absle ⟨0,fun n _=>?_⟩
 have h1:=zNw hc hx hy n
 have h2:=hB n
 have h3:=sqn (y-x)
 rw [show psum (sh c) x (n+1)*(y-x)=(y-x)*psum (sh c) x (n+1) from mul_comm _ _] at h1
 refine le_trans h1 ?_
 generalize psum one M n=p at *;generalize (y-x)*(y-x)=q at *
 exact zH [p,q,B] (mn (sn h2) h3)
end Go.Proofs.YtaoakfodkoifoaaGreat.An
namespace Go.Proofs.YtaoakfodkoifoaaGreat.An
def sc (n:Nat):Rat:=if n%4=1 then 1 else if n%4=3 then -1 else 0
def cc (n:Nat):Rat:=if n%4=0 then 1 else if n%4=2 then -1 else 0
theorem zIJ:abs (rat 1)<=1:=le_of_eq (zbm (qn 1))
theorem zFd:abs (rat (-1))<=1:=zeU (zo1 (-1) (-1)) (zo1 (-1) 1)
theorem zFc:abs (rat 0)<=1:=zeU (zo1 (-1) 0) (zo1 0 1)
theorem zJa:Co sc:=fun n=>by
 unfold sc;split
 ·exact zIJ
 ·split
  ·exact zFd
  ·exact zFc
theorem zIn:Co cc:=fun n=>by
 unfold cc;split
 ·exact zIJ
 ·split
  ·exact zFd
  ·exact zFc
theorem zQy:sh sc=cc:=funext fun n=>by
 simp only [sh,sc,cc]
 have h:n%4=0\/n%4=1\/n%4=2\/n%4=3:=by omega
 rcases h with h|h|h|h
 ·rw [if_pos (by omega),if_pos h]
 ·rw [if_neg (by omega),if_neg (by omega),if_neg (by omega),if_neg (by omega)]
 ·rw [if_neg (by omega),if_pos (by omega),if_neg (by omega),if_pos h]
 ·rw [if_neg (by omega),if_neg (by omega),if_neg (by omega),if_neg (by omega)]
theorem zQz (n:Nat):sh cc n= - sc n:=by
 simp only [sh,sc,cc]
 have h:n%4=0\/n%4=1\/n%4=2\/n%4=3:=by omega
 rcases h with h|h|h|h
 ·rw [if_neg (by omega),if_neg (by omega),if_neg (by omega),if_neg (by omega)];rfl
 ·rw [if_neg (by omega),if_pos (by omega),if_pos h]
 ·rw [if_neg (by omega),if_neg (by omega),if_neg (by omega),if_neg (by omega)];rfl
 ·rw [if_pos (by omega),if_neg (by omega),if_pos h];rfl
def sin (x:Re):Re:=ser sc x
def cos (x:Re):Re:=ser cc x
def exp (x:Re):Re:=ser one x
theorem zqS (a b:Re):Der a b sin cos:=by
 have:=zLA zJa a b
 rwa [zQy] at this
theorem zq6 (a b:Re):Der a b cos (fun x=> - sin x):=
 (zLA zIn a b).congr (fun _ _ _=>rfl) (fun x _ _=>zLz zJa zIn.sh zQz x)
theorem zDq (a b:Re):Der a b exp exp:=zLA zGZ a b
theorem zgk:sin 0=0:=zy7 zJa
theorem zk4:cos 0=1:=zy7 zIn
theorem zp7:exp 0=1:=zy7 zGZ
theorem Der.shift {a b:Re} (k:Re) {f g:Re->Re} (h:Der (k+a) (k+b) f g):Der a b (fun x=>f (k+x)) (fun x=>g (k+x)):=by
 obtain ⟨K,k0,hK⟩:=h
 refine ⟨K,k0,fun x y x1 x2 y1 y2=>?_⟩
 have:=hK (k+x) (k+y) (zc3 (le_refl k) x1) (zc3 (le_refl k) x2) (zc3 (le_refl k) y1) (zc3 (le_refl k) y2)
 rwa [show k+y-(k+x)=y-x from ring [k,x,y]] at this
theorem Der.flip {a b:Re} {f g:Re->Re} (h:Der (-b) (-a) f g):Der a b (fun x=>f (-x)) (fun x=> - g (-x)):=by
 obtain ⟨K,k0,hK⟩:=h
 refine ⟨K,k0,fun x y x1 x2 y1 y2=>?_⟩
 have:=hK (-x) (-y) (zH [x,b] (sn x2)) (zH [x,a] (sn x1)) (zH [y,b] (sn y2)) (zH [y,a] (sn y1))
 show abs (f (-y)-f (-x) - -g (-x)*(y-x))<=_
 generalize f (-y)=u at *;generalize f (-x)=v at *;generalize g (-x)=w at *
 rwa [show u-v-w*(-y - -x)=u-v - -w*(y-x) from ring [u,v,w,x,y],show (-y - -x)*(-y - -x)=(y-x)*(y-x) from ring [x,y]] at this
theorem Der.mapd {a b:Re} {f g g':Re->Re} (h:Der a b f g) (k:∀x,g x=g' x):Der a b f g':=h.congr (fun _ _ _=>rfl) (fun x _ _=>k x)
theorem zEY {f:Re->Re} (h:∀a b,Der a b f (fun _=>0)) (x y:Re):f x=f y:=by
 rcases le_total x y with k|k
 ·exact ((h x y).zero k).symm
 ·exact (h y x).zero k
theorem uniq {f g:Re->Re} (h:∀a b,Der a b f g) (k:∀a b,Der a b g (fun x=> - f x)) (f0:f 0=0) (g0:g 0=0) (x:Re):f x=0/\g x=0:=by
 have e:f x*f x+g x*g x=f 0*f 0+g 0*g 0:=by
  refine zEY (f:=fun x=>f x*f x+g x*g x) (fun a b=>?_) x 0
  rcases le_total a b with l|l
  ·refine (((h a b).mul (h a b) l).add ((k a b).mul (k a b) l)).mapd fun x=>?_
   generalize f x=u;generalize g x=v
   exact ring [u,v]
  ·refine ⟨0,le_refl 0,fun p q p1 p2 q1 q2=>?_⟩
   have e1:p=q:=by
    have hab:=le_antisymm (le_trans p1 p2) l
    exact (le_antisymm (hab▸p2) p1).trans (le_antisymm (hab▸q2) q1).symm
   subst e1
   show abs (f p*f p+g p*g p-(f p*f p+g p*g p)-0*(p-p))<=_
   generalize f p*f p+g p*g p=u
   rw [show u-u-0*(p-p)=0 from ring [u,p],abs_zero]
   exact zH [p] (le_refl 0)
 rw [f0,g0,show (0:Re)*0+0*0=0 from ring []] at e
 have a1:=sqn (f x)
 have a2:=sqn (g x)
 constructor
 ·refine zoI (zl0 (le_refl 0) ?_)
  rw [zr2]
  generalize f x=u at *;generalize g x=v at *
  rw [show (0:Re)*0=0 from ring [],<- e];exact zH [u,v] a2
 ·refine zoI (zl0 (le_refl 0) ?_)
  rw [zr2]
  generalize f x=u at *;generalize g x=v at *
  rw [show (0:Re)*0=0 from ring [],<- e];exact zH [u,v] a1
theorem zov (x:Re):sin (-x)= - sin x:=by
 have:=(uniq (f:=fun x=>sin (-x)+sin x) (g:=fun x=>cos x + - cos (-x))
  (fun a b=>((zqS _ _).flip.add (zqS a b)).mapd fun x=>add_comm _ _)
  (fun a b=>((zq6 a b).add (zq6 _ _).flip.neg).mapd fun x=>by
   show-sin x + - - - sin (-x)= -(sin (-x)+sin x)
   generalize sin x=u;generalize sin (-x)=v;exact ring [u,v])
  (by show sin (-0)+sin 0=0;rw [show (-0:Re)=0 from ring [],zgk];exact ring [])
  (by show cos 0 + - cos (-0)=0;rw [show (-0:Re)=0 from ring [],zk4];exact ring []) x).1
 exact zcy (zkl [sin x,sin (-x)] this)
theorem zmD (x:Re):cos (-x)=cos x:=by
 have:=(uniq (f:=fun x=>sin (-x)+sin x) (g:=fun x=>cos x + - cos (-x))
  (fun a b=>((zqS _ _).flip.add (zqS a b)).mapd fun x=>add_comm _ _)
  (fun a b=>((zq6 a b).add (zq6 _ _).flip.neg).mapd fun x=>by
   show-sin x + - - - sin (-x)= -(sin (-x)+sin x)
   generalize sin x=u;generalize sin (-x)=v;exact ring [u,v])
  (by show sin (-0)+sin 0=0;rw [show (-0:Re)=0 from ring [],zgk];exact ring [])
  (by show cos 0 + - cos (-0)=0;rw [show (-0:Re)=0 from ring [],zk4];exact ring []) x).2
 exact (zcy (zkl [cos x,cos (-x)] this)).symm
theorem zDW (a x:Re):sin (a+x)=sin a*cos x+cos a*sin x/\cos (a+x)=cos a*cos x-sin a*sin x:=by
 have:=uniq (f:=fun x=>sin (a+x) + -(sin a*cos x+cos a*sin x)) (g:=fun x=>cos (a+x) + -(cos a*cos x + - (sin a*sin x)))
  (fun l r=>((zqS _ _).shift a |>.add (((zq6 l r).smul (sin a)).add ((zqS l r).smul (cos a))).neg).mapd fun x=>by
   show cos (a+x) + - (sin a *-sin x+cos a*cos x)=cos (a+x) + -(cos a*cos x + - (sin a*sin x))
   generalize cos (a+x)=p;generalize sin a=q;generalize cos a=r;generalize sin x=s;generalize cos x=t
   exact ring [p,q,r,s,t])
  (fun l r=>((zq6 _ _).shift a |>.add (((zq6 l r).smul (cos a)).add ((zqS l r).smul (sin a)).neg).neg).mapd fun x=>by
   show-sin (a+x) + - (cos a *-sin x + - (sin a*cos x))= -(sin (a+x) + -(sin a*cos x+cos a*sin x))
   generalize sin (a+x)=p;generalize sin a=q;generalize cos a=r;generalize sin x=s;generalize cos x=t
   exact ring [p,q,r,s,t])
  (by
   show sin (a+0) + -(sin a*cos 0+cos a*sin 0)=0
   rw [add_zero,zgk,zk4];generalize sin a=q;generalize cos a=r;exact ring [q,r])
  (by
   show cos (a+0) + -(cos a*cos 0 + -(sin a*sin 0))=0
   rw [add_zero,zgk,zk4];generalize sin a=q;generalize cos a=r;exact ring [q,r]) x
 exact ⟨zcy this.1,zcy (by
  have h:cos (a+x) + -(cos a*cos x + -(sin a*sin x))=0:=this.2
  generalize cos (a+x)=p at *;generalize sin a=q at *;generalize cos a=r at *;generalize sin x=s at *;generalize cos x=t at *
  exact zkl [p,q,r,s,t] h)⟩
theorem zu3 (a x:Re):sin (a+x)=sin a*cos x+cos a*sin x:=(zDW a x).1
theorem zq7 (a x:Re):cos (a+x)=cos a*cos x-sin a*sin x:=(zDW a x).2
theorem zjN (a x:Re):sin (a-x)=sin a*cos x-cos a*sin x:=by
 rw [sub_eq,zu3,zov,zmD];generalize sin a=q;generalize cos a=r;generalize sin x=s;generalize cos x=t
 exact ring [q,r,s,t]
theorem zoF (a x:Re):cos (a-x)=cos a*cos x+sin a*sin x:=by
 rw [sub_eq,zq7,zov,zmD];generalize sin a=q;generalize cos a=r;generalize sin x=s;generalize cos x=t
 exact ring [q,r,s,t]
theorem zl2 (x:Re):sin x*sin x+cos x*cos x=1:=by
 have:=zoF x x
 rw [show x-x=0 from ring [x],zk4] at this
 rw [this,add_comm]
theorem zkx (x:Re):cos x<=1:=by
 have h:=zl2 x
 have k:=sqn (sin x)
 refine zl0 (qn 1) ?_
 generalize sin x=s at *;generalize cos x=c at *
 rw [show (1:Re)*1=s*s+c*c from by rw [h];exact ring []];exact zH [s,c] k
theorem zpp (x:Re):sin x<=1:=by
 have h:=zl2 x
 have k:=sqn (cos x)
 refine zl0 (qn 1) ?_
 generalize sin x=s at *;generalize cos x=c at *
 rw [show (1:Re)*1=s*s+c*c from by rw [h];exact ring []];exact zH [s,c] k
theorem znl (x:Re): -1<=sin x:=by
 have:=zpp (-x);rw [zov] at this;exact zH [sin x] (sn this)
theorem zDX {x:Re} (h:0<=x):sin x<=x:=by
 have:=Der.le (zqS 0 x) (Der.id 0 x) h (fun y _ _=>zkx y)
 rw [zgk] at this
 exact zH [sin x,x] (sn this)
theorem sq_d (a b:Re):Der a b (fun x=>x*x) (fun x=>2*x):=⟨1,qn 1,fun x y _ _ _ _=>by
 rw [show y*y-x*x-2*x*(y-x)=(y-x)*(y-x) from ring [x,y],zbm (sqn _)]
 exact zH [x,y] (le_refl 0)⟩
theorem zK5 {x:Re} (h:0<=x):1-x*x*rat (1/2)<=cos x:=by
 have:=Der.le ((sq_d 0 x).smul (rat (-1/2))) (zq6 0 x) h (fun y h0 _=>by
  have:=zDX h0;generalize sin y=s at *;exact zH [s,y] (sn this))
 rw [zk4] at this
 generalize cos x=c at *
 exact zH [x,c] (sn this)
theorem zK4 (a b:Re) (h:a<=b):Der a b (fun x=>x*(x*x)) (fun x=>3*(x*x)):=
 ((Der.id a b).mul (sq_d a b) h).mapd fun x=>ring [x]
theorem zN0 (a b:Re) (h:a<=b):Der a b (fun x=>x*(x*(x*x))) (fun x=>4*(x*(x*x))):=
 ((Der.id a b).mul (zK4 a b h) h).mapd fun x=>ring [x]
theorem zAO {x:Re} (h:0<=x):x-x*(x*x)*rat (1/6)<=sin x:=by
 have:=Der.le ((Der.id 0 x).add ((zK4 0 x h).smul (rat (-1/6)))) (zqS 0 x) h (fun y h0 _=>by
  have:=zK5 h0;generalize cos y=s at *;exact zH [s,y] (sn this))
 rw [zgk] at this
 generalize sin x=c at *
 exact zH [x,c] (sn this)
theorem zOb {x:Re} (h:0<=x):cos x<=1-x*x*rat (1/2)+x*(x*(x*x))*rat (1/24):=by
 have:=Der.le (zq6 0 x) (((sq_d 0 x).smul (rat (-1/2))).add ((zN0 0 x h).smul (rat (1/24)))) h (fun y h0 _=>by
  have:=zAO h0;generalize sin y=s at *;exact zH [s,y] (sn this))
 rw [zk4] at this
 generalize cos x=c at *
 exact zH [x,c] (sn this)
theorem zy2 {x:Re} (h:0<x) (k:x<=2):0<sin x:=by
 refine lt_of_lt_of_le ?_ (zAO (le_of_lt h))
 have h1:=mn (sn k) (pn (qn 2) (le_of_lt h))
 exact zdo [x] (mp h (ppn (qp (1/3)) (mn h1 (qn (1/6)))))
theorem zJX:∃p,0<=p/\p<=2/\cos p=0:=by
 have h02:(0:Re)<=2:=qn 2
 obtain ⟨L,l0,hL⟩:=(zq6 0 2).neg.lip h02
 obtain ⟨c,c1,c2,c3⟩:=zuz (f:=fun x=> - cos x) h02 l0 hL (by
  show-cos 0<=0;rw [zk4];exact zH [] (qn 1)) (by
  have:=zOb (x:=2) h02
  show 0 <= - cos 2
  generalize cos 2=c at *
  exact zH [c] (pn (sn this) (qn (1/3))))
 exact ⟨c,c1,c2,zkl [cos c] (congrArg (fun t=> -t) c3: - - cos c= - 0)⟩
def hp:Re:=Classical.choose zJX
theorem hp_2:hp<=2:=(Classical.choose_spec zJX).2.1
theorem zkn:cos hp=0:=(Classical.choose_spec zJX).2.2
theorem hp_1:1<=hp:=by
 rcases lt_or_le hp 1 with k|k
 ·have h0:0<=hp:=(Classical.choose_spec zJX).1
  have:=zK5 h0
  rw [zkn] at this
  generalize hp=p at *
  exact absurd (zdo [p] (ppn (qp (1/2)) (mn (mn (sn (le_of_lt k)) (pn (qn 1) h0)) (qn (1/2)))):(0:Re)<1-p*p*rat (1/2)) this
 ·exact k
theorem hp_p:0<hp:=lt_of_lt_of_le (qp 1) hp_1
theorem znk:sin hp=1:=by
 have h:=zl2 hp
 have k:=zy2 hp_p hp_2
 rw [zkn] at h
 refine zI4 (le_of_lt k) (qn 1) ?_
 generalize sin hp=s at *
 rw [show (1:Re)*1=1 from ring [],<- h];exact ring [s]
theorem znW (x:Re):sin (hp-x)=cos x:=by rw [zjN,znk,zkn];generalize sin x=s;generalize cos x=c;exact ring [s,c]
theorem zmh (x:Re):cos (hp-x)=sin x:=by rw [zoF,znk,zkn];generalize sin x=s;generalize cos x=c;exact ring [s,c]
theorem znX (x:Re):sin (x+hp)=cos x:=by rw [zu3,znk,zkn];generalize sin x=s;generalize cos x=c;exact ring [s,c]
theorem zyk (x:Re):cos (x+hp)= - sin x:=by rw [zq7,znk,zkn];generalize sin x=s;generalize cos x=c;exact ring [s,c]
theorem zzV {x:Re} (h:0<=x) (k:x<hp):0<cos x:=by
 rw [<- znW]
 exact zy2 (sp k) (le_trans (zH [hp,x] h) hp_2)
theorem zzW {x:Re} (h: -hp<x) (k:x<hp):0<cos x:=by
 rcases le_total 0 x with m|m
 ·exact zzV m k
 ·rw [<- zmD];exact zzV (zlM m) (zdo [x,hp] (sp h))
theorem zpK {x:Re} (h: -hp<=x) (k:x<=hp):0<=cos x:=by
 rcases le_iff.1 h with h|h
 ·rcases le_iff.1 k with k|k
  ·exact le_of_lt (zzW h k)
  ·rw [k,zkn];exact le_refl _
 ·rw [<- h,zmD,zkn];exact le_refl _
def pi:Re:=2*hp
theorem zpo {x:Re} (h:0<x) (k:x<pi):0<sin x:=by
 rw [<- zmh]
 exact zzW (zdo [x,hp] (sp (show x<2*hp from k))) (zdo [x,hp] h)
theorem zqx {x:Re} (h:0<=x) (k:x<=pi):0<=sin x:=by
 rw [<- zmh]
 exact zpK (zH [x,hp] (sn (show x<=2*hp from k))) (zH [x,hp] h)
theorem zu1:sin pi=0:=by rw [pi,show 2*hp=hp+hp from ring [hp],znX,zkn]
theorem zwd:cos pi= -1:=by rw [pi,show 2*hp=hp+hp from ring [hp],zyk,znk]
theorem zFs (x:Re):sin (x+pi)= - sin x:=by rw [zu3,zu1,zwd];generalize sin x=s;generalize cos x=c;exact ring [s,c]
theorem zFY (x:Re):cos (x+pi)= - cos x:=by rw [zq7,zu1,zwd];generalize sin x=s;generalize cos x=c;exact ring [s,c]
theorem znj {x y:Re} (h: -hp<=x) (hxy:x<=y) (k:y<=hp):sin x<=sin y:=
 (zqS x y).mono (fun z h1 h2=>zpK (le_trans h h1) (le_trans h2 k)) hxy
theorem zzY {x y:Re} (h:0<=x) (hxy:x<=y) (k:y<=pi):cos y<=cos x:=by
 rw [<- znW,<- znW x]
 exact znj (zH [y,hp] (sn (show y<=2*hp from k))) (zH [x,y,hp] (sn hxy)) (zH [x,hp] h)
theorem zLv {x y:Re} (hx: -hp<=x) (hx':x<=hp) (hy: -hp<=y) (hy':y<=hp) (h:sin x=sin y):x=y:=by
 have hc:cos x=cos y:=by
  refine zI4 (zpK hx hx') (zpK hy hy') ?_
  have a:=zl2 x
  have b:=zl2 y
  rw [h] at a
  generalize sin y=s at *;generalize cos x=c at *;generalize cos y=d at *
  exact zkl [s,c,d] (a.trans b.symm)
 have key:∀u v,-hp<=u->v<=hp->sin u=sin v->cos u=cos v->¬u<v:=fun u v hu hv e1 e2 l=>by
  have e:sin (v-u)=0:=by rw [zjN,e1,e2];generalize sin v=s;generalize cos v=c;exact ring [s,c]
  rcases le_iff.1 (show v-u<=pi from zH [u,v,hp] (pn (sn hu) (sn hv)) (x:=v-u) (y:=2*hp)) with m|m
  ·exact lt_irrefl _ (e▸zpo (sp l) m)
  ·have c1:cos (v-u)=1:=by rw [zoF,e1,e2];have:=zl2 v;rw [add_comm] at this;exact this
   rw [m,zwd] at c1
   exact lt_irrefl (1:Re) (by have h:(-1:Re)<1:=zG7 (-1) 1;rwa [c1] at h)
 rcases tri x y with l|l|l
 ·exact absurd l (key x y hx hy' h hc)
 ·exact l
 ·exact absurd l (key y x hy hx' h.symm hc.symm)
theorem zv1 (a x:Re):exp (a+x)*exp (-x)=exp a:=by
 have:exp (a+x)*exp (-x)=exp (a+0)*exp (-0):=by
  refine zEY (f:=fun x=>exp (a+x)*exp (-x)) (fun l r=>?_) x 0
  rcases le_total l r with h|h
  ·refine (((zDq _ _).shift a).mul (zDq _ _).flip h).mapd fun x=>?_
   generalize exp (a+x)=u;generalize exp (-x)=v
   exact ring [u,v]
  ·refine ⟨0,le_refl 0,fun p q p1 p2 q1 q2=>?_⟩
   have e1:p=q:=by
    have hab:=le_antisymm (le_trans p1 p2) h
    exact (le_antisymm (hab▸p2) p1).trans (le_antisymm (hab▸q2) q1).symm
   subst e1
   show abs (exp (a+p)*exp (-p)-exp (a+p)*exp (-p)-0*(p-p))<=_
   generalize exp (a+p)*exp (-p)=u
   rw [show u-u-0*(p-p)=0 from ring [u,p],abs_zero]
   exact zH [p] (le_refl 0)
 rw [this,add_zero,show (-0:Re)=0 from ring [],zp7,mul_one]
theorem zDp (x:Re):exp x*exp (-x)=1:=by
 have:=zv1 0 x
 rwa [zero_add,zp7] at this
theorem zH1 (a x:Re):exp (a+x)=exp a*exp x:=by
 have h1:=zv1 a x
 have h2:=zDp x
 rw [<- h1]
 generalize exp (a+x)=u at *;generalize exp x=v at *;generalize exp (-x)=w at *
 exact zkl [u,v,w] (congrArg (fun t=> - (u*t)) h2: - (u*(v*w))= - (u*1))
theorem zDo (x:Re):0<exp x:=by
 have h:exp x=exp (x*rat (1/2))*exp (x*rat (1/2)):=by rw [<- zH1];congr 1;exact ring [x]
 rcases le_iff.1 (h▸sqn (exp (x*rat (1/2))):0<=exp x) with k|k
 ·exact k
 ·have:=zDp x
  rw [<- k,zero_mul] at this
  exact absurd (this▸(qp 1:(0:Re)<1)) (lt_irrefl _)
theorem zH0 {x:Re} (h:0<=x):1+x<=exp x:=by
 have h1:∀y,0<=y->1<=exp y:=fun y hy=>by
  have:=(zDq 0 y).mono (fun z _ _=>le_of_lt (zDo z)) hy
  rwa [zp7] at this
 have:=Der.le (Der.id 0 x) (zDq 0 x) h (fun y h0 _=>h1 y h0)
 rw [zp7] at this
 exact zH [exp x,x] (sn this)
theorem zJ4 {x y:Re} (h:x<=y):exp x<=exp y:=(zDq x y).mono (fun z _ _=>le_of_lt (zDo z)) h
end Go.Proofs.YtaoakfodkoifoaaGreat.An
namespace Go.Proofs.YtaoakfodkoifoaaGreat.An
def monQ (x:Rat):Nat->Rat
 | 0=>1
 | n+1=>monQ x n*x*(1/((n+1:Nat):Rat))
theorem zzD (q:Rat) (n:Nat):mon (rat q) n=rat (monQ q n):=by
 induction n with
 | zero=>rfl
 | succ n ih=>simp only [mon,monQ,ih,znA]
def zxx (c:Nat->Rat) (x:Rat):Nat->Rat
 | 0=>0
 | n+1=>zxx c x n+c n*monQ x n
theorem zJj (c:Nat->Rat) (q:Rat) (n:Nat):psum c (rat q) n=rat (zxx c q n):=by
 induction n with
 | zero=>rfl
 | succ n ih=>simp only [psum,zxx,ih,zzD,znA,zpt]
theorem zEW {q:Rat} (h0:0<=q) (h2:q<=2):abs (cos (rat q)-rat (zxx cc q 40))<=rat (2*monQ 2 40):=by
 have:=zy8 zIn (x:=rat q) (M:=rat 2) (i:=40) (by rw [zbm (zD2 h0)];exact zps.2 h2) (zo1 (2*2) ((40+1:Nat):Rat))
 rw [zJj,zzD] at this
 exact this
theorem sub_le_self {x y:Re} (h:0<=y):x-y<=x:=zH [x,y] h
theorem zQV {q:Rat} (h0:0<=q) (h2:q<=2) (h:decide (2*monQ 2 40<=zxx cc q 40)=true):rat q<=hp:=by
 rcases lt_or_le hp (rat q) with k|k
 ·have h1:=zy2 (sp k) (le_trans (sub_le_self (le_of_lt hp_p)) (zps.2 h2))
  rw [zjN,znk,zkn] at h1
  have h3:=(zeT (zEW h0 h2)).1
  have h4:rat (2*monQ 2 40)<=rat (zxx cc q 40):=zps.2 (of_decide_eq_true h)
  generalize rat (zxx cc q 40)=p at *;generalize rat (2*monQ 2 40)=t at *;generalize cos (rat q)=c at *;generalize sin (rat q)=s at *
  exact absurd (zH [p,t,c] (pn (sn h3) (sn h4)):0<=c) (not_le.2 (zdo [c,s] h1))
 ·exact k
theorem zQU {q:Rat} (h0:0<=q) (h2:q<=2) (h:decide (zxx cc q 40+2*monQ 2 40<=0)=true):hp<=rat q:=by
 rcases lt_or_le (rat q) hp with k|k
 ·have h1:=zzV (zD2 h0) k
  have h3:=(zeT (zEW h0 h2)).2
  have h4:rat (zxx cc q 40)+rat (2*monQ 2 40)<=0:=by rw [<- zpt];exact zps.2 (of_decide_eq_true h)
  generalize rat (zxx cc q 40)=p at *;generalize rat (2*monQ 2 40)=t at *;generalize cos (rat q)=c at *
  exact absurd (zH [p,t,c] (pn (sn h3) (sn h4)):c<=0) (not_le.2 h1)
 ·exact k
theorem zJW:rat (7244019458077122842/4611686018427387904)<=hp:=zQV (by decide +kernel) (by decide +kernel) (by kernel_rfl)
theorem zMr:hp<=rat (7244019458077122843/4611686018427387904):=zQU (by decide +kernel) (by decide +kernel) (by kernel_rfl)
theorem zz1 (t:Re):∃a,-hp<a/\a<hp/\sin a=t*cos a:=by
 have h0: -hp<=hp:=zH [hp] (kn 2 (le_of_lt hp_p))
 obtain ⟨L,l0,hL⟩:=((zqS (-hp) hp).add ((zq6 (-hp) hp).smul (-t))).lip h0
 obtain ⟨c,c1,c2,c3⟩:=zuz (f:=fun x=>sin x + -t*cos x) h0 l0 hL (by
  show sin (-hp) + -t*cos (-hp)<=0
  rw [zov,zmD,znk,zkn];exact zH [t] (qn 1)) (by
  show 0<=sin hp + -t*cos hp
  rw [znk,zkn];exact zH [t] (qn 1))
 have e:sin c=t*cos c:=zcy (zkl [sin c,cos c,t] c3)
 refine ⟨c,?_,?_,e⟩
 ·rcases le_iff.1 c1 with k|k
  ·exact k
  ·rw [<- k,zov,zmD,znk,zkn,mul_zero] at e
   have h:(-1:Re)<0:=zG7 (-1) 0
   rw [e] at h;exact absurd h (lt_irrefl _)
 ·rcases le_iff.1 c2 with k|k
  ·exact k
  ·rw [k,znk,zkn,mul_zero] at e
   have h:(0:Re)<1:=qp 1
   rw [e] at h;exact absurd h (lt_irrefl _)
def atan (t:Re):Re:=Classical.choose (zz1 t)
theorem zhy (t:Re): -hp<atan t:=(Classical.choose_spec (zz1 t)).1
theorem zhx (t:Re):atan t<hp:=(Classical.choose_spec (zz1 t)).2.1
theorem zky (t:Re):sin (atan t)=t*cos (atan t):=(Classical.choose_spec (zz1 t)).2.2
theorem zk5 (t:Re):0<cos (atan t):=zzW (zhy t) (zhx t)
theorem zE4 (s t:Re):sin (atan s-atan t)=(s-t)*(cos (atan s)*cos (atan t)):=by
 rw [zjN,zky,zky];generalize cos (atan s)=c;generalize cos (atan t)=d;exact ring [s,t,c,d]
theorem zea {s t:Re} (h:s<=t):atan s<=atan t:=by
 rcases lt_or_le (atan t) (atan s) with k|k
 ·have h1:=zhx s
  have h2:=zhy t
  have h3:=zpo (sp k) (zdo [atan s,atan t,hp] (pp (sp h1) (sp h2)):atan s-atan t<2*hp)
  rw [zE4] at h3
  have h4:=mn (sn h) (mn (le_of_lt (zk5 s)) (le_of_lt (zk5 t)))
  generalize cos (atan s)=c at *;generalize cos (atan t)=d at *
  exact absurd (zH [s,t,c,d] h4:(s-t)*(c*d)<=0) (not_le.2 h3)
 ·exact k
theorem zmF {a t:Re} (h1: -hp<a) (h2:a<hp) (h:sin a=t*cos a):a=atan t:=by
 have key:∀u v,-hp<v->u<hp->sin u=t*cos u->sin v=t*cos v->¬v<u:=fun u v hv hu e1 e2 k=>by
  have h3:=zpo (sp k) (zdo [u,v,hp] (pp (sp hu) (sp hv)):u-v<2*hp)
  rw [zjN,e1,e2] at h3
  have:t*cos u*cos v-cos u*(t*cos v)=0:=by generalize cos u=c;generalize cos v=d;exact ring [t,c,d]
  rw [this] at h3
  exact lt_irrefl _ h3
 rcases tri a (atan t) with k|k|k
 ·exact absurd k (key _ _ h1 (zhx t) (zky t) h)
 ·exact k
 ·exact absurd k (key _ _ (zhy t) h2 h (zky t))
theorem zrX (t:Re):atan (-t)= - atan t:=by
 have h1:=zhy t
 have h2:=zhx t
 have h3:=zky t
 refine (zmF (zdo [atan t,hp] (sp h2)) (zdo [atan t,hp] (sp h1)) ?_).symm
 rw [zov,zmD,h3];generalize cos (atan t)=c;exact ring [t,c]
theorem zhw:atan 0=0:=by
 refine (zmF (zdo [hp] hp_p) hp_p ?_).symm
 rw [zgk,zero_mul]
theorem zDF (t:Re):(1+t*t)*(cos (atan t)*cos (atan t))=1:=by
 have:=zl2 (atan t)
 rw [zky] at this
 generalize cos (atan t)=c at *;exact zkl [t,c] this
theorem zzX {x y:Re} (h:x<=y):abs (cos y-cos x)<=y-x:=by
 refine zeU ?_ ?_
 ·have:=Der.le ((Der.id x y).neg) (zq6 x y) h (fun z _ _=>by have:=zpp z;generalize sin z=s at *;exact zH [s] (sn this))
  exact zH [cos x,cos y,x,y] (sn this)
 ·have:=Der.le (zq6 x y) (Der.id x y) h (fun z _ _=>by have:=znl z;generalize sin z=s at *;exact zH [s] (sn this))
  exact zH [cos x,cos y,x,y] (sn this)
theorem zym {x:Re} (h:abs x<=rat (1/4)):abs (atan x)<=1:=by
 have key:∀x,x<=rat (1/4)->atan x<=1:=fun x hx=>by
  rcases lt_or_le 1 (atan x) with k|k
  ·have h1:=znj (x:=1) (y:=atan x) (zH [hp] (pn (qn 1) (le_of_lt hp_p))) (le_of_lt k) (le_of_lt (zhx x))
   have h2:=zAO (x:=1) (qn 1)
   have h3:=zkx (atan x)
   have h4:=zk5 x
   rw [zky] at h1
   generalize cos (atan x)=c at *;generalize sin 1=s at *
   exact absurd (zH [x,c,s] (pn (pn (sn h1) (sn h2)) (pn (mn (sn hx) (le_of_lt h4)) (kn (1/4) (sn h3)))):(1:Re)-rat (1/6)<=rat (1/4)) (not_le.2 (zdo [] (qp (7/12))))
  ·exact k
 refine zeU ?_ (key x (le_trans (zqz x) h))
 have:=key (-x) (le_trans (zjk x) h)
 rw [zrX] at this
 exact zH [atan x] (sn this)
theorem zOh:Der (-rat (1/4)) (rat (1/4)) atan (fun x=>cos (atan x)*cos (atan x)):=by
 refine ⟨6,qn 6,fun x y x1 x2 y1 y2=>?_⟩
 show abs (atan y-atan x-cos (atan x)*cos (atan x)*(y-x))<=6*((y-x)*(y-x))
 have hx:=zym (zeU x1 x2)
 have hy:=zym (zeU y1 y2)
 have key:∀u v,abs (atan u)<=1->abs (atan v)<=1->u<=v->atan v-atan u<=3*(v-u)/\atan v-atan u-(v-u)*(cos (atan u)*cos (atan v))<=3*((v-u)*(v-u))/\0<=atan v-atan u-(v-u)*(cos (atan u)*cos (atan v)):=fun u v hu hv l=>by
  have m:=zea l
  have s1:=zAO (sn m)
  have s2:=zDX (sn m)
  have e:=zE4 v u
  have c1:=zkx (atan u)
  have c2:=zkx (atan v)
  have c3:=le_of_lt (zk5 u)
  have c4:=le_of_lt (zk5 v)
  have d2:atan v-atan u<=2:=by
   have:=(zeT hu).1;have:=(zeT hv).2
   generalize atan u=a at *;generalize atan v=b at *
   exact zH [a,b] (pn (sn (zeT hu).1) (sn (zeT hv).2))
  rw [mul_comm (cos (atan v))] at e
  rw [<- e]
  have d0:=sn m
  generalize atan v-atan u=d at *
  generalize sin d=s at *
  have t1:cos (atan u)*cos (atan v)<=1:=by
   generalize cos (atan u)=p at *;generalize cos (atan v)=q at *
   exact zH [p,q] (pn (mn (sn c1) c4) (sn c2))
  have t2:s<=v-u:=by
   rw [e];have:=sn l
   generalize cos (atan u)*cos (atan v)=p at *
   exact zH [u,v,p] (mn this (sn t1))
  have q0:=mn d0 d0
  have t3:d<=3*s:=zH [d,s] (pn (kn 3 (sn s1)) (kn (1/2) (mn d0 (mn (sn d2) (pn (qn 2) d0)))))
  have t4:d<=3*(v-u):=zH [d,s,u,v] (pn (sn t3) (kn 3 (sn t2)))
  refine ⟨t4,?_,sn s2⟩
  exact zH [d,s,u,v] (pn (pn (sn s1) (kn (1/6) (mn q0 (sn d2)))) (pn (kn (1/3) (mn d0 (sn t4))) (mn (sn t4) (sn l))))
 rcases le_total x y with l|l
 ·obtain ⟨k1,k2,k3⟩:=key x y hx hy l
  have m:=zea l
  have c:=zeT (zzX m)
  have c1:=zkx (atan x)
  have c3:=le_of_lt (zk5 x)
  generalize cos (atan x)=p at *;generalize cos (atan y)=q at *
  generalize hd:atan y-atan x=d at *
  have z1:=mn (mn c3 (sn l)) (sn c.1)
  have z2:=mn (mn c3 (sn l)) (sn c.2)
  have z3:=mn (sn l) (sn k1)
  have z4:=mn (mn (sn c1) (sn l)) (sn m)
  rw [hd] at z4
  refine zeU ?_ ?_
  ·exact zH [d,p,q,x,y] (pn (pn (pn k3 z1) (pn z3 z4)) (kn 3 (sqn (y-x))))
  ·exact zH [d,p,q,x,y] (pn (pn (pn (sn k2) z2) z3) z4)
 ·obtain ⟨k1,k2,k3⟩:=key y x hy hx l
  have m:=zea l
  have c:=zeT (zzX m)
  have c1:=zkx (atan x)
  have c3:=le_of_lt (zk5 x)
  generalize cos (atan x)=p at *;generalize cos (atan y)=q at *
  rw [show atan y-atan x= - (atan x-atan y) from ring [atan x,atan y]]
  generalize hd:atan x-atan y=d at *
  have z1:=mn (mn c3 (sn l)) (sn c.1)
  have z2:=mn (mn c3 (sn l)) (sn c.2)
  have z3:=mn (sn l) (sn k1)
  have z4:=mn (mn (sn c1) (sn l)) (sn m)
  rw [hd] at z4
  refine zeU ?_ ?_
  ·exact zH [d,p,q,x,y] (pn (pn (pn (sn k2) z1) z3) z4)
  ·exact zH [d,p,q,x,y] (pn (pn (pn k3 z2) (pn z3 z4)) (kn 3 (sqn (y-x))))
end Go.Proofs.YtaoakfodkoifoaaGreat.An
namespace Go.Proofs.YtaoakfodkoifoaaGreat.An
theorem zN2 {x y:Re} (e:x=y) (h:0<=y):0<=x:=e▸h
theorem zQG {a b:Re} (h:a<=b) (n:Nat):Der a b (fun x=>x^(n+1)) (fun x=>rat ((n+1:Nat):Rat)*x^n):=by
 induction n with
 | zero=>
  refine (Der.id a b).congr (fun x _ _=>?_) (fun x _ _=>?_)
  ·show x=1*x;exact ring [x]
  ·show 1=rat 1*1;exact ring []
 | succ n ih=>
  refine (ih.mul (Der.id a b) h).congr (fun x _ _=>rfl) (fun x _ _=>?_)
  show rat ((n+1:Nat):Rat)*x^n*x+x^n*x*1=rat ((n+2:Nat):Rat)*(x^n*x)
  rw [zrK (n+1)]
  generalize rat ((n+1:Nat):Rat)=r;generalize x^n=p
  exact ring [r,p,x]
theorem zLQ {x M:Re} (h:abs x<=M) (n:Nat):abs (x^n)<=M^n:=by
 induction n with
 | zero=>exact le_of_eq (zbm (qn 1))
 | succ n ih=>exact zbp ih h
theorem Der.bound {a b e:Re} {f g:Re->Re} (h:Der a b f g) (hab:a<=b) (hg:∀x,a<=x->x<=b->abs (g x)<=e):abs (f b-f a)<=e*(b-a):=by
 have h1:=Der.le h ((Der.id a b).smul e) hab (fun x x1 x2=>by have:=(zeT (hg x x1 x2)).2;generalize g x=u at *;exact zH [u,e] (sn this))
 have h2:=Der.le ((Der.id a b).smul (-e)) h hab (fun x x1 x2=>by have:=(zeT (hg x x1 x2)).1;generalize g x=u at *;exact zH [u,e] (sn this))
 generalize f a=u at *;generalize f b=v at *
 exact zeU (zH [u,v,e,a,b] (sn h2)) (zH [u,v,e,a,b] (sn h1))
theorem Der.bound0 {m e x:Re} {f g:Re->Re} (h:Der (-m) m f g) (hx:abs x<=m) (hg:∀x,abs x<=m->abs (g x)<=e) (f0:f 0=0):abs (f x)<=e*abs x:=by
 have hm:=le_trans (zcs x) hx
 obtain ⟨x1,x2⟩:=zeT hx
 rcases le_total 0 x with k|k
 ·have:=(h.sub (c:=0) (d:=x) (zH [m] hm) x2).bound k (fun y y1 y2=>hg y (zeU (le_trans (zH [m] hm) y1) (le_trans y2 x2)))
  rw [f0] at this
  rw [zbm k]
  generalize f x=u at *
  rwa [show u-0=u from ring [u],show x-0=x from ring [x]] at this
 ·have:=(h.sub (c:=x) (d:=0) x1 hm).bound k (fun y y1 y2=>hg y (zeU (le_trans x1 y1) (le_trans y2 hm)))
  rw [f0] at this
  rw [zh8 k,<- abs_neg]
  generalize f x=u at *
  rwa [show 0-u= -u from ring [u],show 0-x= -x from ring [x]] at this
def aP (s:Rat) (x:Re):Nat->Re
 | 0=>0
 | k+1=>aP s x k+rat (s^k*(1/((2*k+1:Nat):Rat)))*x^(2*k+1)
def aD (s:Rat) (x:Re):Nat->Re
 | 0=>0
 | k+1=>aD s x k+rat (s^k)*x^(2*k)
theorem aP_d (s:Rat) {a b:Re} (h:a<=b) (n:Nat):Der a b (fun x=>aP s x n) (fun x=>aD s x n):=by
 induction n with
 | zero=>exact Der.const a b 0
 | succ n ih=>
  refine (ih.add ((zQG h (2*n)).smul (rat (s^n*(1/((2*n+1:Nat):Rat)))))).mapd fun x=>?_
  show aD s x n+rat (s^n*(1/((2*n+1:Nat):Rat)))*(rat ((2*n+1:Nat):Rat)*x^(2*n))=aD s x n+rat (s^n)*x^(2*n)
  have:=zzI (2*n)
  rw [znA]
  generalize rat ((2*n+1:Nat):Rat)=r at *;generalize rat (1/((2*n+1:Nat):Rat))=i at *;generalize rat (s^n)=t;generalize x^(2*n)=p;generalize aD s x n=q
  exact zkl [r,i,t,p,q] (congrArg (fun z=>t*p*z) this:t*p*(r*i)=t*p*1)
theorem zOm (s:Rat) (x:Re) (n:Nat):(1-rat s*(x*x))*aD s x n=1-rat (s^n)*x^(2*n):=by
 induction n with
 | zero=>
  have e:s^0=1:=by simp
  rw [e]
  show (1-rat s*(x*x))*0=1-rat 1*1;generalize rat s=t;exact ring [t,x]
 | succ n ih=>
  show (1-rat s*(x*x))*(aD s x n+rat (s^n)*x^(2*n))=1-rat (s^(n+1))*(x^(2*n)*x*x)
  rw [Rat.pow_succ,znA,mul_add,ih]
  generalize rat s=t;generalize rat (s^n)=u;generalize x^(2*n)=p
  exact ring [t,u,p,x]
theorem zMW (s:Rat) (n:Nat):aP s 0 n=0:=by
 induction n with
 | zero=>rfl
 | succ n ih=>
  show aP s 0 n+_*(npow 0 (2*n)*0)=0
  rw [ih,mul_zero,mul_zero,add_zero]
theorem zIw {x:Re} (h:abs x<=rat (1/4)):abs (atan x-aP (-1) x 11)<=rat (1/70368744177664):=by
 have hd:Der (-rat (1/4)) (rat (1/4)) (fun x=>atan x + - aP (-1) x 11) (fun x=>cos (atan x)*cos (atan x) + - aD (-1) x 11):=by
  refine Der.add ?_ (aP_d (-1) (zH [] (qn (1/2))) 11).neg
  exact zOh
 have:=hd.bound0 (e:=rat (1/17592186044416)) h (fun y hy=>by
  show abs (cos (atan y)*cos (atan y) + - aD (-1) y 11)<=_
  have h1:=zDF y
  have h2:=zOm (-1) y 11
  have h3:abs (y^(2*11))<=rat (1/4)^(2*11):=zLQ hy _
  have h4:rat (1/4)^(2*11)<=rat (1/17592186044416):=zH [] (le_refl 0)
  have h5:=le_trans h3 h4
  rw [show rat ((-1)^11)= -1 from (by decide +kernel:((-1:Rat)^11)= -1)▸rfl] at h2
  have h6:=sqn y
  have hp:0<1+y*y:=ppn (qp 1) h6
  generalize cos (atan y)*cos (atan y)=c at *;generalize aD (-1) y 11=d at *;generalize y^(2*11)=w at *
  have e:(c + -d)*(1+y*y)= -w:=zkl [c,d,w,y] (show (1+y*y)*c + -((1-rat (-1)*(y*y))*d)=1 + -(1 - -1*w) by rw [h1,h2])
  have e2:abs (c + -d)*(1+y*y)=abs w:=by
   rw [show abs (c + -d)*(1+y*y)=abs (c + -d)*abs (1+y*y) from by rw [zbm (le_of_lt hp)],<- znE,e,abs_neg]
  have h7:=zcs (c + -d)
  generalize abs (c + -d)=u at *;generalize abs w=v at *
  generalize rat (1/17592186044416)=t at *
  exact zH [u,v,t,y] (pn (sn h5) (zN2 (show v-u*(1+y*y)+u*(y*y)=u*(y*y) by rw [e2];exact ring [u,v,y]) (mn h7 h6)))) (by
  show atan 0 + - aP (-1) 0 11=0
  rw [zhw,zMW];exact ring [])
 refine le_trans (this:abs (atan x-aP (-1) x 11)<=_) ?_
 generalize abs x=u at *
 exact zH [u] (kn (1/17592186044416) (sn h))
def monP:Nat->PE
 | 0=> .q 1
 | n+1=> .mul (.mul (monP n) (.v 0)) (.q (1/((n+1:Nat):Rat)))
def zJm (c:Nat->Rat):Nat->PE
 | 0=> .q 0
 | n+1=> .add (zJm c n) (.mul (.q (c n)) (monP n))
def aPP (s:Rat):Nat->PE
 | 0=> .q 0
 | k+1=> .add (aPP s k) (.mul (.q (s^k*(1/((2*k+1:Nat):Rat)))) (.pow (.v 0) (2*k+1)))
theorem zL4 (x:Re) (n:Nat):(monP n).ev [x]=mon x n:=by
 induction n with
 | zero=>rfl
 | succ n ih=>simp only [monP,PE.ev,ih,mon];rfl
theorem zJl (c:Nat->Rat) (x:Re) (n:Nat):(zJm c n).ev [x]=psum c x n:=by
 induction n with
 | zero=>rfl
 | succ n ih=>simp only [zJm,PE.ev,ih,psum,zL4]
theorem zOl (s:Rat) (x:Re) (n:Nat):(aPP s n).ev [x]=aP s x n:=by
 induction n with
 | zero=>rfl
 | succ n ih=>simp only [aPP,PE.ev,ih,aP];rfl
instance rfPsum {c:Nat->Rat} {x:Re} {n:Nat}:Rf [x] (psum c x n) (zJm c n):=⟨zJl c x n⟩
instance rfAP {s:Rat} {x:Re} {n:Nat}:Rf [x] (aP s x n) (aPP s n):=⟨zOl s x n⟩
theorem zDE {x:Re} (h:abs x<=rat (1/4)):abs (atan x-x*(rat (1/1)-x*x*(rat (1/3)-x*x*(rat (1/5)-x*x*(rat (1/7)-x*x*(rat (1/9)-x*x*(rat (1/11)-x*x*(rat (1/13)-x*x*(rat (1/15)-x*x*(rat (1/17)-x*x*(rat (1/19)-x*x*rat (1/21))))))))))))<=rat (1/4294967296):=by
 have h1:=zIw h
 have e:aP (-1) x 11=x*(rat (1/1)-x*x*(rat (1/3)-x*x*(rat (1/5)-x*x*(rat (1/7)-x*x*(rat (1/9)-x*x*(rat (1/11)-x*x*(rat (1/13)-x*x*(rat (1/15)-x*x*(rat (1/17)-x*x*(rat (1/19)-x*x*rat (1/21))))))))))):=by
  exact ring [x]
 rw [e] at h1
 exact le_trans h1 (zo1 _ _)
theorem zFq {x:Re} (h:abs x<=1):abs (sin x-x*(1-x*x*rat (1/6)*(1-x*x*rat (1/20)*(1-x*x*rat (1/42)*(1-x*x*rat (1/72)*(1-x*x*rat (1/110)*(1-x*x*rat (1/156)*(1-x*x*rat (1/210)*(1-x*x*rat (1/272)*1)))))))))<=rat (1/8589934592):=by
 have h1:=zy8 zJa (i:=18) h (zo1 (2*1) ((18+1:Nat):Rat))
 have e:psum sc x 18=x*(1-x*x*rat (1/6)*(1-x*x*rat (1/20)*(1-x*x*rat (1/42)*(1-x*x*rat (1/72)*(1-x*x*rat (1/110)*(1-x*x*rat (1/156)*(1-x*x*rat (1/210)*(1-x*x*rat (1/272)*1)))))))):=by
  exact ring [x]
 have e2:2*mon 1 18<=rat (1/8589934592):=by
  rw [show (1:Re)=rat 1 from rfl,zzD]
  exact zo1 (2*monQ 1 18) _
 rw [e] at h1
 exact le_trans h1 e2
theorem zFX {x:Re} (h:abs x<=1):abs (cos x-(1-x*x*rat (1/2)*(1-x*x*rat (1/12)*(1-x*x*rat (1/30)*(1-x*x*rat (1/56)*(1-x*x*rat (1/90)*(1-x*x*rat (1/132)*(1-x*x*rat (1/182)*(1-x*x*rat (1/240)*1)))))))))<=rat (1/8589934592):=by
 have h1:=zy8 zIn (i:=17) h (zo1 (2*1) ((17+1:Nat):Rat))
 have e:psum cc x 17=(1-x*x*rat (1/2)*(1-x*x*rat (1/12)*(1-x*x*rat (1/30)*(1-x*x*rat (1/56)*(1-x*x*rat (1/90)*(1-x*x*rat (1/132)*(1-x*x*rat (1/182)*(1-x*x*rat (1/240)*1)))))))):=by
  exact ring [x]
 have e2:2*mon 1 17<=rat (1/8589934592):=by
  rw [show (1:Re)=rat 1 from rfl,zzD]
  exact zo1 (2*monQ 1 17) _
 rw [e] at h1
 exact le_trans h1 e2
end Go.Proofs.YtaoakfodkoifoaaGreat.An
namespace Go.Proofs.YtaoakfodkoifoaaGreat.An
def zi (k:Int):Re:=rat (k:Rat)
theorem zAj (a b:Int):zi (a+b)=zi a+zi b:=by unfold zi;rw [Rat.intCast_add,zpt]
theorem zAi (a:Int):zi (-a)= - zi a:=by unfold zi;rw [Rat.intCast_neg,zCz]
theorem zF7 (a b:Int):zi (a-b)=zi a-zi b:=by rw [Int.sub_eq_add_neg,zAj,zAi];rfl
theorem zhb (a b:Int):zi (a*b)=zi a*zi b:=by unfold zi;rw [Rat.intCast_mul,znA]
theorem zqf {a b:Int}:zi a<=zi b↔a<=b:=by unfold zi;rw [zps,Rat.intCast_le_intCast]
theorem zFe {a b:Int}:zi a<zi b↔a<b:=by unfold zi;rw [zxY,Rat.intCast_lt_intCast]
theorem zi_0:zi 0=0:=rfl
theorem zi_1:zi 1=1:=rfl
theorem zDQ (n:Nat):zi (n:Int)=rat (n:Rat):=by unfold zi;rw [Rat.intCast_natCast]
theorem zJ1 (x:Re):∃k:Int,zi k<=x/\x<zi (k+1):=by
 obtain ⟨n,hn⟩:=arch (abs x)
 have h0:zi (-(n:Int))<=x:=by
  have:=zjk x
  rw [zAi,zDQ]
  generalize rat (n:Rat)=r at *;generalize abs x=u at *
  exact zH [r,u,x] (pn (le_of_lt (sp hn)) (sn this))
 have h1:x<zi (n:Int):=lt_of_le_of_lt (zqz x) (by rw [zDQ];exact hn)
 have key:∀j:Nat,(∃k:Int,zi k<=x/\x<zi (k+1))\/zi (-(n:Int)+j)<=x:=by
  intro j
  induction j with
  | zero=>right;rw [show -(n:Int)+((0:Nat):Int)= -(n:Int) by omega];exact h0
  | succ j ih=>
   rcases ih with h|h
   ·exact .inl h
   ·rcases lt_or_le x (zi (-(n:Int)+(j:Int)+1)) with k|k
    ·exact .inl ⟨_,h,k⟩
    ·right;rw [show -(n:Int)+((j+1:Nat):Int)= -(n:Int)+(j:Int)+1 by omega];exact k
 rcases key (2*n) with h|h
 ·exact h
 ·rw [show -(n:Int)+((2*n:Nat):Int)=(n:Int) by omega] at h
  exact absurd h1 h
def qt (k:Int):Re:=zi k*hp
theorem zvw (k:Int):qt (k+1)=qt k+hp:=by
 unfold qt;rw [zAj,zi_1];generalize zi k=z;generalize hp=p;exact ring [z,p]
theorem zBl (a b:Int):qt (a+b)=qt a+qt b:=by
 unfold qt;rw [zAj];generalize zi a=z;generalize zi b=w;generalize hp=p;exact ring [z,w,p]
theorem zx0 (a:Int):qt (-a)= - qt a:=by unfold qt;rw [zAi,neg_mul]
theorem qt_0:qt 0=0:=zero_mul _
theorem qt_1:qt 1=hp:=one_mul _
theorem zl1 (x:Re) (k:Int):sin (x+qt (k+1))=cos (x+qt k)/\cos (x+qt (k+1))= - sin (x+qt k):=by
 rw [zvw,<- add_assoc];exact ⟨znX _,zyk _⟩
theorem zQx (x:Re) (k:Int):sin (x+qt (k+4))=sin (x+qt k)/\cos (x+qt (k+4))=cos (x+qt k):=by
 have a1:=zl1 x k
 have a2:=zl1 x (k+1)
 have a3:=zl1 x (k+1+1)
 have a4:=zl1 x (k+1+1+1)
 rw [show k+4=k+1+1+1+1 by omega,a4.1,a4.2,a3.1,a3.2,a2.1,a2.2,a1.1,a1.2]
 generalize sin (x+qt k)=s;generalize cos (x+qt k)=c
 exact ⟨ring [s],ring [c]⟩
theorem zKA (x:Re) (k:Int) (n:Nat):sin (x+qt (k+4*n))=sin (x+qt k)/\cos (x+qt (k+4*n))=cos (x+qt k):=by
 induction n with
 | zero=>rw [show k+4*((0:Nat):Int)=k by omega];exact ⟨rfl,rfl⟩
 | succ n ih=>
  have:=zQx x (k+4*n)
  rw [show k+4*((n+1:Nat):Int)=k+4*(n:Int)+4 by omega,this.1,this.2];exact ih
theorem zKz (x:Re) (k m:Int):sin (x+qt (k+4*m))=sin (x+qt k)/\cos (x+qt (k+4*m))=cos (x+qt k):=by
 rcases Int.le_total 0 m with h|h
 ·have:=zKA x k m.toNat
  rwa [Int.toNat_of_nonneg h] at this
 ·have:=zKA x (k+4*m) (-m).toNat
  rw [Int.toNat_of_nonneg (by omega),show k+4*m+4 * -m=k by omega] at this
  exact ⟨this.1.symm,this.2.symm⟩
theorem zGA (x:Re) {k:Int} (h:k%4=0):sin (x+qt k)=sin x:=by
 have:=(zKz x 0 (k/4)).1
 rwa [show 0+4*(k/4)=k by omega,qt_0,add_zero] at this
theorem zOa (x:Re) {k:Int} (h:k%4=0):cos (x+qt k)=cos x:=by
 have:=(zKz x 0 (k/4)).2
 rwa [show 0+4*(k/4)=k by omega,qt_0,add_zero] at this
theorem zGz (x:Re) {k:Int} (h:k%4=1):sin (x+qt k)=cos x:=by
 have:=(zl1 x (k-1)).1
 rw [show k-1+1=k by omega] at this
 rw [this,zOa x (by omega)]
theorem zGy (x:Re) {k:Int} (h:k%4=2):sin (x+qt k)= - sin x:=by
 have a:=(zl1 x (k-1)).1
 have b:=(zl1 x (k-2)).2
 rw [show k-1+1=k by omega] at a
 rw [show k-2+1=k-1 by omega] at b
 rw [a,b,zGA x (by omega)]
theorem zNj (x:Re) {k:Int} (h:k%4=3):sin (x+qt k)= - cos x:=by
 have a:=(zl1 x (k-1)).1
 have b:=(zl1 x (k-2)).2
 rw [show k-1+1=k by omega] at a
 rw [show k-2+1=k-1 by omega] at b
 rw [a,b,zGz x (by omega)]
theorem zNi {x y:Re} {k:Int} (hk:k%4=1) (h1:qt (k-2)<=x) (h2:x<=y) (h3:y<=qt k):sin x<=sin y:=by
 have e:∀z,sin z=sin (z+qt (-(k-1))):=fun z=>(zGA z (by omega)).symm
 rw [e x,e y]
 have hq:=zx0 (k-1)
 have q1:=zvw (k-1)
 have q2:=zvw (k-2)
 rw [show k-1+1=k by omega] at q1
 rw [show k-2+1=k-1 by omega] at q2
 rw [hq]
 generalize qt (k-1)=a at *;generalize qt (k-2)=b at *;generalize qt k=c at *
 refine znj ?_ (zc3 h2 (le_refl _)) ?_
 ·rw [q2];exact zH [x,b,hp] (sn h1)
 ·rw [q1] at h3;exact zH [y,a,hp] (sn h3)
theorem zI7 {x y:Re} {k:Int} (hk:k%4=1) (h1:qt k<=x) (h2:x<=y) (h3:y<=qt (k+2)):sin y<=sin x:=by
 have e:∀z,sin z= - sin (z+qt (-(k+1))):=fun z=>by
  rw [zGy z (by omega)];generalize sin z=s;exact ring [s]
 rw [e x,e y]
 have hq:=zx0 (k+1)
 have q1:=zvw k
 have q2:=zvw (k+1)
 rw [show k+1+1=k+2 by omega] at q2
 rw [hq]
 have:=znj (x:=x + -qt (k+1)) (y:=y + -qt (k+1)) (by
  rw [q1];generalize qt k=a at *;exact zH [x,a,hp] (sn h1)) (zc3 h2 (le_refl _)) (by
  rw [q2] at h3;generalize qt (k+1)=a at *;exact zH [y,a,hp] (sn h3))
 generalize sin (x + -qt (k+1))=s at *;generalize sin (y + -qt (k+1))=t at *
 exact zH [s,t] (sn this)
theorem zFA (x:Re):∃k:Int,k%4=1/\qt (k-2)<=x/\x<=qt (k+2):=by
 obtain ⟨m,m1,m2⟩:=zJ1 ((x/hp+1)*rat (1/4))
 have e:x=(x/hp)*hp:=(div_mul (ne_of_gt hp_p)).symm
 have h0:=hp_p
 refine ⟨4*m+1,by omega,?_,?_⟩
 ·unfold qt
  rw [show 4*m+1-2=4*m-1 by omega,zF7,zhb,zi_1,show zi 4=4 from rfl]
  generalize x/hp=t at *;generalize zi m=z at *
  rw [e];exact zH [t,z,hp] (mn (kn 4 (sn m1)) (le_of_lt h0))
 ·unfold qt
  rw [show 4*m+1+2=4*(m+1)-1 by omega,zF7,zhb,zi_1,show zi 4=4 from rfl]
  generalize x/hp=t at *;generalize zi (m+1)=z at *
  rw [e];exact zH [t,z,hp] (mn (kn 4 (le_of_lt (sp m2))) (le_of_lt h0))
theorem zGw {a b x:Re} (h1:a<=x) (h2:x<=b):sin x<=sin a\/sin x<=sin b\/∃k:Int,k%4=1/\a<=qt k/\qt k<=b:=by
 obtain ⟨k,hk,k1,k2⟩:=zFA x
 rcases le_total x (qt k) with l|l
 ·rcases le_total (qt k) b with m|m
  ·exact .inr (.inr ⟨k,hk,le_trans h1 l,m⟩)
  ·exact .inr (.inl (zNi hk k1 h2 m))
 ·rcases le_total a (qt k) with m|m
  ·exact .inr (.inr ⟨k,hk,m,le_trans l h2⟩)
  ·exact .inl (zI7 hk m h1 k2)
theorem zFr {a b x:Re} (h1:a<=x) (h2:x<=b):sin a<=sin x\/sin b<=sin x\/∃k:Int,k%4=3/\a<=qt k/\qt k<=b:=by
 have e:∀z,sin z= - sin (z+qt 2):=fun z=>by
  rw [zGy z (by decide)];generalize sin z=s;exact ring [s]
 rcases zGw (a:=a+qt 2) (b:=b+qt 2) (x:=x+qt 2) (zc3 h1 (le_refl _)) (zc3 h2 (le_refl _)) with h|h|⟨k,hk,k1,k2⟩
 ·left;rw [e a,e x];generalize sin (a+qt 2)=s at *;generalize sin (x+qt 2)=t at *;exact zH [s,t] (sn h)
 ·right;left;rw [e b,e x];generalize sin (b+qt 2)=s at *;generalize sin (x+qt 2)=t at *;exact zH [s,t] (sn h)
 ·right;right
  refine ⟨k-2,by omega,?_,?_⟩
  ·have:=zBl (k-2) 2
   rw [show k-2+2=k by omega] at this
   rw [this] at k1
   generalize qt (k-2)=u at *;generalize qt 2=v at *
   exact zH [a,u,v] (sn k1)
  ·have:=zBl (k-2) 2
   rw [show k-2+2=k by omega] at this
   rw [this] at k2
   generalize qt (k-2)=u at *;generalize qt 2=v at *
   exact zH [b,u,v] (sn k2)
def Dr (t y x:Re):Prop:=∃r,0<r/\x=r*cos t/\y=r*sin t
theorem zuu {y x:Re} (h:0<x):Dr (atan (y/x)) y x:=by
 have c:=zk5 (y/x)
 have s:=zky (y/x)
 have e1:x/cos (atan (y/x))*cos (atan (y/x))=x:=div_mul (ne_of_gt c)
 have e2:y/x*x=y:=div_mul (ne_of_gt h)
 refine ⟨x/cos (atan (y/x)),zv7 h c,e1.symm,?_⟩
 rw [s]
 generalize y/x=t at *;generalize cos (atan t)=d at *;generalize x/d=r at *
 rw [<- e2,<- e1];exact ring [t,r,d]
theorem zME {y x:Re} (h:0<y):Dr (hp-atan (x/y)) y x:=by
 obtain ⟨r,r0,h1,h2⟩:=zuu (y:=x) (x:=y) h
 exact ⟨r,r0,by rw [zmh];exact h2,by rw [znW];exact h1⟩
theorem zHb {y:Re} (h:y≠0): -y≠0:=fun e=>h (by have k:y= - -y:=ring [y];rw [k,e];exact ring [])
theorem zv8 (x y:Re) (h:y≠0): -x / -y=x/y:=by
 refine zfk (z:= -y) (zHb h) ?_
 rw [div_mul (zHb h)]
 have:=div_mul (x:=x) h
 generalize x/y=q at *
 exact zkl [x,y,q] this
theorem zK1 {t y x:Re} (h:Dr t (-y) (-x)):Dr (t+pi) y x/\Dr (t-pi) y x:=by
 obtain ⟨r,r0,h1,h2⟩:=h
 have e1:x=r *-cos t:=by generalize cos t=c at *;exact zkl [x,r,c] (congrArg (fun z=> -z) h1: - -x= - (r*c))
 have e2:y=r *-sin t:=by generalize sin t=c at *;exact zkl [y,r,c] (congrArg (fun z=> -z) h2: - -y= - (r*c))
 refine ⟨⟨r,r0,by rw [zFY];exact e1,by rw [zFs];exact e2⟩,⟨r,r0,?_,?_⟩⟩
 ·rw [zoF,zu1,zwd];generalize cos t=c at *;generalize sin t=s at *;exact zkl [x,r,c,s] e1
 ·rw [zjN,zu1,zwd];generalize cos t=c at *;generalize sin t=s at *;exact zkl [y,r,c,s] e2
theorem zvD {y:Re} (h:y<0):0 < -y:=zdo [y] (sp h)
theorem zIc {y x:Re} (h:y<0):Dr (-hp-atan (x/y)) y x:=by
 have:=(zK1 (zME (y:= -y) (x:= -x) (zvD h))).2
 rw [zv8 _ _ (ne_of_lt h)] at this
 rwa [show hp-atan (x/y)-pi= -hp-atan (x/y) from by unfold pi;generalize atan (x/y)=a;exact ring [a,hp]] at this
theorem zDt {y x:Re} (h:x<0):Dr (atan (y/x)+pi) y x/\Dr (atan (y/x)-pi) y x:=by
 have:=zK1 (zuu (y:= -y) (x:= -x) (zvD h))
 rwa [zv8 _ _ (ne_of_lt h)] at this
theorem zIb {s t y x:Re} (h:Dr s y x) (k:Dr t y x) (l:s-t<2*pi) (m:t-s<2*pi):s=t:=by
 obtain ⟨r,r0,h1,h2⟩:=h
 obtain ⟨q,q0,k1,k2⟩:=k
 have rq:=mp r0 q0
 have e1:(r*q)*sin (s-t)=0:=by
  rw [zjN]
  have:(r*q)*(sin s*cos t-cos s*sin t)=y*x-x*y:=by
   rw [show y*x-x*y=y*(q*cos t)-x*(q*sin t) from by rw [<- k1,<- k2],h1,h2]
   generalize sin s=a;generalize cos s=b;generalize sin t=c;generalize cos t=d
   exact ring [r,q,a,b,c,d]
  rw [this];exact ring [x,y]
 have e2:0<=(r*q)*cos (s-t):=by
  rw [zoF]
  have:(r*q)*(cos s*cos t+sin s*sin t)=x*x+y*y:=by
   rw [show x*x+y*y=x*(q*cos t)+y*(q*sin t) from by rw [<- k1,<- k2],h1,h2]
   generalize sin s=a;generalize cos s=b;generalize sin t=c;generalize cos t=d
   exact ring [r,q,a,b,c,d]
  rw [this];exact pn (sqn x) (sqn y)
 have e3:sin (s-t)=0:=by
  rcases tri (sin (s-t)) 0 with u|u|u
  ·exact absurd (zdo [r,q,sin (s-t)] (mp rq (sp u)):(r*q)*sin (s-t)<0) (by rw [e1];exact lt_irrefl 0)
  ·exact u
  ·exact absurd (e1▸mp rq u) (lt_irrefl 0)
 have e4:cos (s-t)=1:=by
  have:=zl2 (s-t)
  rw [e3] at this
  have c0:0<=cos (s-t):=by
   rcases lt_or_le (cos (s-t)) 0 with u|u
   ·exact absurd (zdo [r,q,cos (s-t)] (mp rq (sp u)):(r*q)*cos (s-t)<0) e2
   ·exact u
  refine zI4 c0 (qn 1) ?_
  generalize cos (s-t)=c at *
  exact zkl [c] this
 have key:∀d,0<d->d<2*pi->sin d=0->cos d=1->False:=fun d d1 d2 d3 d4=>by
  rcases tri d pi with u|u|u
  ·exact lt_irrefl 0 (d3▸zpo d1 u)
  ·rw [u,zwd] at d4
   have h:(-1:Re)<1:=zG7 (-1) 1
   rw [d4] at h;exact lt_irrefl 1 h
  ·have:=zpo (x:=d-pi) (sp u) (zdo [d,pi] (sp d2))
   rw [zjN,zu1,zwd,d3] at this
   rw [show (0:Re) * -1-cos d*0=0 from by generalize cos d=c;exact ring [c]] at this
   exact lt_irrefl 0 this
 rcases tri s t with u|u|u
 ·refine absurd (sp u) (fun v=>key (t-s) v m ?_ ?_)
  ·rw [show t-s= -(s-t) from ring [s,t],zov,e3];exact ring []
  ·rw [show t-s= -(s-t) from ring [s,t],zmD,e4]
 ·exact u
 ·exact absurd (sp u) (fun v=>key (s-t) v l e3 e4)
theorem zET (y x:Re) (h:¬(y=0/\x=0)):∃t,-pi<t/\t<=pi/\Dr t y x:=by
 have h0:=hp_p
 have p2:pi=2*hp:=rfl
 rcases tri y 0 with k|k|k
 ·refine ⟨_,?_,?_,zIc k⟩
  ·have:=zhx (x/y);rw [p2];generalize atan (x/y)=a at *;exact zdo [a,hp] (sp this)
  ·have:=zhy (x/y);rw [p2];generalize atan (x/y)=a at *;exact zH [a,hp] (pn (le_of_lt (sp this)) (kn 2 (le_of_lt h0)))
 ·rcases tri x 0 with l|l|l
  ·refine ⟨_,?_,?_,(zDt l).1⟩
   ·have:=zhy (y/x);rw [p2];generalize atan (y/x)=a at *;exact zdo [a,hp] (pp (sp this) (kp 3 h0))
   ·subst k
    rw [div_eq,zero_mul,zhw,zero_add];exact le_refl _
  ·exact absurd ⟨k,l⟩ h
  ·refine ⟨_,?_,?_,zuu l⟩
   ·have:=zhy (y/x);rw [p2];generalize atan (y/x)=a at *;exact zdo [a,hp] (pp (sp this) h0)
   ·have:=zhx (y/x);rw [p2];generalize atan (y/x)=a at *;exact zH [a,hp] (pn (le_of_lt (sp this)) (le_of_lt h0))
 ·refine ⟨_,?_,?_,zME k⟩
  ·have:=zhx (x/y);rw [p2];generalize atan (x/y)=a at *;exact zdo [a,hp] (pp (sp this) (kp 2 h0))
  ·have:=zhy (x/y);rw [p2];generalize atan (x/y)=a at *;exact zH [a,hp] (le_of_lt (sp this))
open Classical in
def dir (y x:Re):Re:=if h:¬(y=0/\x=0) then choose (zET y x h) else 0
theorem zK3 {y x:Re} (h:¬(y=0/\x=0)): -pi<dir y x:=by rw [dir,dif_pos h];exact (Classical.choose_spec (zET y x h)).1
theorem zIg {y x:Re} (h:¬(y=0/\x=0)):dir y x<=pi:=by rw [dir,dif_pos h];exact (Classical.choose_spec (zET y x h)).2.1
theorem zIh {y x:Re} (h:¬(y=0/\x=0)):Dr (dir y x) y x:=by rw [dir,dif_pos h];exact (Classical.choose_spec (zET y x h)).2.2
theorem zQ1 {t y x:Re} (h:Dr t y x):¬(y=0/\x=0):=by
 rintro ⟨e1,e2⟩
 obtain ⟨r,r0,h1,h2⟩:=h
 have:=zl2 t
 have e:r*r=x*x+y*y:=by
  rw [h1,h2];generalize sin t=s at *;generalize cos t=c at *
  exact zkl [r,s,c] (congrArg (fun z=>r*r * -z) this:r*r * -(s*s+c*c)=r*r * -1)
 rw [e1,e2] at e
 have:=mp r0 r0
 rw [e] at this
 exact lt_irrefl _ (lt_of_lt_of_le this (zH [] (le_refl 0)))
theorem zn5 {t y x:Re} (h:Dr t y x) (h1: -pi<t) (h2:t<=pi):dir y x=t:=by
 have n:=zQ1 h
 have a:=zK3 n
 have b:=zIg n
 exact zIb (zIh n) h (zdo [dir y x,t,pi] (ppn (sp h1) (sn b))) (zdo [dir y x,t,pi] (ppn (sp a) (sn h2)))
theorem zpJ {y x:Re} (h:0<x):dir y x=atan (y/x):=by
 have h0:=hp_p
 have p2:pi=2*hp:=rfl
 refine zn5 (zuu h) ?_ ?_
 ·have:=zhy (y/x);rw [p2];generalize atan (y/x)=a at *;exact zdo [a,hp] (pp (sp this) h0)
 ·have:=zhx (y/x);rw [p2];generalize atan (y/x)=a at *;exact zH [a,hp] (pn (le_of_lt (sp this)) (le_of_lt h0))
theorem zBN {y x:Re} (k:0<y):dir y x=hp-atan (x/y):=by
 have h0:=hp_p
 have p2:pi=2*hp:=rfl
 refine zn5 (zME k) ?_ ?_
 ·have:=zhx (x/y);rw [p2];generalize atan (x/y)=a at *;exact zdo [a,hp] (pp (sp this) (kp 2 h0))
 ·have:=zhy (x/y);rw [p2];generalize atan (x/y)=a at *;exact zH [a,hp] (le_of_lt (sp this))
theorem zrU {y x:Re} (k:y<0):dir y x= -hp-atan (x/y):=by
 have h0:=hp_p
 have p2:pi=2*hp:=rfl
 refine zn5 (zIc k) ?_ ?_
 ·have:=zhx (x/y);rw [p2];generalize atan (x/y)=a at *;exact zdo [a,hp] (sp this)
 ·have:=zhy (x/y);rw [p2];generalize atan (x/y)=a at *;exact zH [a,hp] (pn (le_of_lt (sp this)) (kn 2 (le_of_lt h0)))
theorem zNr {y x:Re} (hy:0<=y) (hx:x<0):y/x<=0:=by
 have:=zFW hy (zvD hx)
 rw [show y= - -y from ring [y],show x= - -x from ring [x],zv8 _ _ (ne_of_gt (zvD hx))]
 have e: -y / -x= - (y / -x):=by rw [div_eq,div_eq,neg_mul]
 rw [e]
 generalize y / -x=q at *
 exact zH [q] this
theorem zES {y x:Re} (h:x<0) (k:0<=y):dir y x=atan (y/x)+pi:=by
 have p2:pi=2*hp:=rfl
 refine zn5 (zDt h).1 ?_ ?_
 ·have:=zhy (y/x);rw [p2];generalize atan (y/x)=a at *;exact zdo [a,hp] (pp (sp this) (kp 3 hp_p))
 ·have:=zea (zNr k h);rw [zhw] at this;generalize atan (y/x)=a at *;exact zH [a,pi] (sn this)
theorem zIf {y x:Re} (h:x<0) (k:y<0):dir y x=atan (y/x)-pi:=by
 have p2:pi=2*hp:=rfl
 have hq:0<y/x:=by rw [<- zv8 _ _ (ne_of_lt h)];exact zv7 (zvD k) (zvD h)
 refine zn5 (zDt h).2 ?_ ?_
 ·have h1:0<atan (y/x):=by
   have h2:=zea (le_of_lt hq)
   rw [zhw] at h2
   rcases le_iff.1 h2 with h3|h3
   ·exact h3
   ·have:=zky (y/x)
    rw [<- h3,zgk,zk4,mul_one] at this
    exact absurd (this▸hq) (lt_irrefl _)
  exact zdo [atan (y/x),pi] h1
 ·have:=zhx (y/x);rw [p2];generalize atan (y/x)=a at *;exact zH [a,hp] (pn (le_of_lt (sp this)) (kn 3 (le_of_lt hp_p)))
end Go.Proofs.YtaoakfodkoifoaaGreat.An
namespace Go.Proofs.YtaoakfodkoifoaaGreat.An
theorem zDz {y x v u:Re} (h:¬(y=0/\x=0)) (k:¬(v=0/\u=0)) (l:dir y x-dir v u<pi) (hc:u*y<=v*x):dir y x<=dir v u:=by
 rcases lt_or_le (dir v u) (dir y x) with m|m
 ·have s:=zpo (sp m) l
  obtain ⟨r,r0,h1,h2⟩:=zIh h
  obtain ⟨q,q0,k1,k2⟩:=zIh k
  rw [zjN] at s
  have:=mp (mp q0 r0) s
  generalize sin (dir y x)=a at *;generalize cos (dir y x)=b at *;generalize sin (dir v u)=c at *;generalize cos (dir v u)=d at *
  have e:q*r*(a*d-b*c)=u*y-v*x:=by rw [h1,h2,k1,k2];exact ring [q,r,a,b,c,d]
  rw [e] at this
  exact absurd hc (not_le.2 (zdo [u,y,v,x] this))
 ·exact m
theorem zp9 {x0 x1 y0 y1 x y l:Re} (a1:x0<=x) (a2:x<=x1) (b1:y0<=y) (b2:y<=y1)
  (hl:∀u v,x0<=u->u<=x1->y0<=v->v<=y1->¬(v=0/\u=0)/\l<dir v u/\dir v u<=l+pi):
  (∃u v,(u=x0\/u=x1)/\(v=y0\/v=y1)/\dir y x<=dir v u)/\(∃u v,(u=x0\/u=x1)/\(v=y0\/v=y1)/\dir v u<=dir y x):=by
 have hp:=hl x y a1 a2 b1 b2
 have ax:=le_trans a1 a2
 have by':=le_trans b1 b2
 have near:∀u v u' v',¬(v=0/\u=0)/\l<dir v u/\dir v u<=l+pi->¬(v'=0/\u'=0)/\l<dir v' u'/\dir v' u'<=l+pi->dir v u-dir v' u'<pi:=fun u v u' v' h h'=>by
  have h1:=h.2.2
  have h2:=h'.2.1
  generalize dir v u=d at *;generalize dir v' u'=d' at *
  exact zdo [d,d',l,pi] (pnp (sn h1) (sp h2))
 constructor
 ·obtain ⟨u,hu,u1,u2,u3⟩:∃u,(u=x0\/u=x1)/\x0<=u/\u<=x1/\u*y<=x*y:=by
   rcases le_total 0 y with k|k
   ·exact ⟨x0,.inl rfl,le_refl _,ax,zH [x0,x,y] (mn (sn a1) k)⟩
   ·exact ⟨x1,.inr rfl,ax,le_refl _,zH [x1,x,y] (mn (sn a2) (zlM k))⟩
  obtain ⟨v,hv,v1,v2,v3⟩:∃v,(v=y0\/v=y1)/\y0<=v/\v<=y1/\x*y<=v*x:=by
   rcases le_total 0 x with k|k
   ·exact ⟨y1,.inr rfl,by',le_refl _,zH [y1,x,y] (mn (sn b2) k)⟩
   ·exact ⟨y0,.inl rfl,le_refl _,by',zH [y0,x,y] (mn (sn b1) (zlM k))⟩
  have hc:=hl u v u1 u2 v1 v2
  exact ⟨u,v,hu,hv,zDz hp.1 hc.1 (near _ _ _ _ hp hc) (le_trans u3 v3)⟩
 ·obtain ⟨u,hu,u1,u2,u3⟩:∃u,(u=x0\/u=x1)/\x0<=u/\u<=x1/\x*y<=u*y:=by
   rcases le_total 0 y with k|k
   ·exact ⟨x1,.inr rfl,ax,le_refl _,zH [x1,x,y] (mn (sn a2) k)⟩
   ·exact ⟨x0,.inl rfl,le_refl _,ax,zH [x0,x,y] (mn (sn a1) (zlM k))⟩
  obtain ⟨v,hv,v1,v2,v3⟩:∃v,(v=y0\/v=y1)/\y0<=v/\v<=y1/\v*x<=x*y:=by
   rcases le_total 0 x with k|k
   ·exact ⟨y0,.inl rfl,le_refl _,by',zH [y0,x,y] (mn (sn b1) k)⟩
   ·exact ⟨y1,.inr rfl,by',le_refl _,zH [y1,x,y] (mn (sn b2) (zlM k))⟩
  have hc:=hl u v u1 u2 v1 v2
  refine ⟨u,v,hu,hv,zDz hc.1 hp.1 (near _ _ _ _ hc hp) ?_⟩
  have:=le_trans v3 u3
  rw [mul_comm x v,mul_comm y u];exact this
theorem zGI {u v:Re} (h:0<u):¬(v=0/\u=0) /\ -hp<dir v u/\dir v u <= -hp+pi:=by
 refine ⟨fun e=>ne_of_gt h e.2,?_,?_⟩
 ·rw [zpJ h];exact zhy _
 ·rw [zpJ h,show -hp+pi=hp from by unfold pi;exact ring [hp]];exact le_of_lt (zhx _)
theorem zNm {u v:Re} (h:0<v):¬(v=0/\u=0)/\0<dir v u/\dir v u<=0+pi:=by
 refine ⟨fun e=>ne_of_gt h e.1,?_,?_⟩
 ·rw [zBN h];exact sp (zhx _)
 ·rw [zero_add];exact zIg (fun e=>ne_of_gt h e.1)
theorem zJf {u v:Re} (h:v<0):¬(v=0/\u=0) /\ -pi<dir v u/\dir v u <= -pi+pi:=by
 refine ⟨fun e=>ne_of_lt h e.1,zK3 (fun e=>ne_of_lt h e.1),?_⟩
 rw [zrU h]
 have:=zhy (u/v)
 generalize atan (u/v)=a at *
 exact zH [a,hp,pi] (le_of_lt (sp this))
theorem zJe {u v:Re} (h:u<0) (k:0<=v):¬(v=0/\u=0)/\0<dir v u/\dir v u<=0+pi:=by
 refine ⟨fun e=>ne_of_lt h e.2,?_,?_⟩
 ·rw [zES h k]
  have:=zhy (v/u)
  have h0:=hp_p
  unfold pi
  generalize atan (v/u)=a at *
  exact zdo [a,hp] (pp (sp this) h0)
 ·rw [zero_add];exact zIg (fun e=>ne_of_lt h e.2)
theorem zMG {x0 x1 y0 y1 x y:Re} (a1:x0<=x) (a2:x<=x1) (b1:y0<=y) (b2:y<=y1)
  (h1:¬(y0<=0/\0<=y1/\x0<=0/\0<=x1)) (h2:¬(x0<0/\y0<0/\0<=y1)):
  ¬(y=0/\x=0)/\(∃u v,(u=x0\/u=x1)/\(v=y0\/v=y1)/\dir y x<=dir v u)/\(∃u v,(u=x0\/u=x1)/\(v=y0\/v=y1)/\dir v u<=dir y x):=by
 refine ⟨fun e=>h1 ⟨e.1▸b1,e.1▸b2,e.2▸a1,e.2▸a2⟩,?_⟩
 rcases lt_or_le 0 x0 with k|k
 ·exact zp9 a1 a2 b1 b2 (fun u v u1 _ _ _=>zGI (lt_of_lt_of_le k u1))
 rcases lt_or_le 0 y0 with l|l
 ·exact zp9 a1 a2 b1 b2 (fun u v _ _ v1 _=>zNm (lt_of_lt_of_le l v1))
 rcases lt_or_le y1 0 with m|m
 ·exact zp9 a1 a2 b1 b2 (fun u v _ _ _ v2=>zJf (lt_of_le_of_lt v2 m))
 have n:x1<0:=not_le.1 (fun n=>h1 ⟨l,m,k,n⟩)
 have o:0<=y0:=fun o=>h2 ⟨lt_of_le_of_lt (le_trans a1 a2) n,o,m⟩
 exact zp9 a1 a2 b1 b2 (fun u v _ u2 v1 _=>zJe (lt_of_le_of_lt u2 n) (le_trans o v1))
theorem zy3 (x:Re):sin (2*x)=2*(sin x*cos x):=by
 rw [show 2*x=x+x from ring [x],zu3];generalize sin x=s;generalize cos x=c;exact ring [s,c]
theorem zwe (x:Re):cos (2*x)=1-2*(sin x*sin x):=by
 have:=zl2 x
 rw [show 2*x=x+x from ring [x],zq7];generalize sin x=s at *;generalize cos x=c at *
 exact zkl [s,c] this
theorem zuw:atan 1=hp*rat (1/2):=by
 have h0:=hp_p
 refine (zmF (zdo [hp] (kp (3/2) h0)) (zdo [hp] (kp (1/2) h0)) ?_).symm
 rw [one_mul]
 have:=zmh (hp*rat (1/2))
 rw [<- this];congr 1;exact ring [hp]
theorem zBS (t:Re):atan t=2*atan (t/(1+sqrt (1+t*t))):=by
 have q0:0<=1+t*t:=pn (qn 1) (sqn t)
 have w0:=zgX (1+t*t)
 have w1:=zgj q0
 generalize sqrt (1+t*t)=w at *
 have d0:0<1+w:=ppn (qp 1) w0
 have e1:t/(1+w)*(1+w)=t:=div_mul (ne_of_gt d0)
 generalize t/(1+w)=u at *
 -- u is between -1 and 1
 have hu:u*u<=1*1:=by
  refine zfR (z:=(1+w)*(1+w)) (mp d0 d0) ?_
  rw [show u*u*((1+w)*(1+w))=(u*(1+w))*(u*(1+w)) from ring [u,w],e1]
  have:t*t=w*w-1:=by rw [w1];exact ring [t]
  rw [this];exact zH [w] (pn (qn 2) (kn 2 w0))
 have au:abs u<=1:=zl0 (qn 1) (by rw [zr2];exact hu)
 obtain ⟨u1,u2⟩:=zeT au
 have b1:=zea u1
 have b2:=zea u2
 rw [zrX,zuw] at b1
 rw [zuw] at b2
 have hc:=zk5 u
 have hs:=zky u
 have sq:=zDF u
 have key:sin (2*atan u)=t*cos (2*atan u):=by
  rw [zy3,zwe,hs]
  generalize cos (atan u)=c at *
  have e2:t*(1-u*u)=2*u:=by
   refine zfk (z:=(1+w)*(1+w)) (ne_of_gt (mp d0 d0)) ?_
   rw [show t*(1-u*u)*((1+w)*(1+w))=t*((1+w)*(1+w)-(u*(1+w))*(u*(1+w))) from ring [t,u,w],e1,
    show 2*u*((1+w)*(1+w))=2*(u*(1+w))*(1+w) from ring [u,w],e1]
   exact zkl [t,w] (congrArg (fun z=>t*z) w1:t*(w*w)=t*(1+t*t))
  refine zcy ?_
  rw [show 2*(u*c*c)-t*(1-2*(u*c*(u*c)))=2*u*(c*c)-t*((1+u*u)*(c*c)-2*(u*u)*(c*c))+t*((1+u*u)*(c*c)-1) from ring [u,c,t],sq,
   show 2*u*(c*c)-t*(1-2*(u*u)*(c*c))+t*(1-1)=2*u*(c*c)-t*1+2*(t*(u*u))*(c*c) from ring [u,c,t],<- sq]
  exact zkl [u,c,t] (congrArg (fun z=> -(c*c)*z) e2: -(c*c)*(t*(1-u*u))= -(c*c)*(2*u))
 have nz:∀a,sin a=t*cos a->¬cos a=0:=fun a ha hb=>by
  have:=zl2 a
  rw [ha,hb,mul_zero] at this
  rw [show (0:Re)*0+0*0=0 from ring []] at this
  exact absurd (this▸(qp 1:(0:Re)<1)) (lt_irrefl _)
 have nk:=nz _ key
 refine (zmF ?_ ?_ key).symm
 ·rcases le_iff.1 (zH [atan u,hp] (kn 2 (sn b1)): -hp<=2*atan u) with k|k
  ·exact k
  ·rw [<- k,zmD,zkn] at nk;exact absurd rfl nk
 ·rcases le_iff.1 (zH [atan u,hp] (kn 2 (sn b2)):2*atan u<=hp) with k|k
  ·exact k
  ·rw [k,zkn] at nk;exact absurd rfl nk
def asin (x:Re):Re:=2*atan (x/(1+sqrt (1-x*x)))
theorem zuy {x:Re} (h:abs x<=1):sin (asin x)=x /\ -hp<=asin x/\asin x<=hp:=by
 have hx:x*x<=1:=by have:=zbp h h;rw [zbm (sqn x)] at this;exact le_trans this (zH [] (le_refl 0))
 have q0:0<=1-x*x:=sn hx
 have w0:=zgX (1-x*x)
 have w1:=zgj q0
 unfold asin
 generalize sqrt (1-x*x)=w at *
 have d0:0<1+w:=ppn (qp 1) w0
 have e1:x/(1+w)*(1+w)=x:=div_mul (ne_of_gt d0)
 generalize x/(1+w)=u at *
 have hu:u*u<=1*1:=by
  refine zfR (z:=(1+w)*(1+w)) (mp d0 d0) ?_
  rw [show u*u*((1+w)*(1+w))=(u*(1+w))*(u*(1+w)) from ring [u,w],e1]
  have:x*x=1-w*w:=by rw [w1];exact ring [x]
  rw [this];exact zH [w] (pn (kn 2 w0) (kn 2 (sqn w)))
 have au:abs u<=1:=zl0 (qn 1) (by rw [zr2];exact hu)
 obtain ⟨u1,u2⟩:=zeT au
 have b1:=zea u1
 have b2:=zea u2
 rw [zrX,zuw] at b1
 rw [zuw] at b2
 have hs:=zky u
 have sq:=zDF u
 refine ⟨?_,zH [atan u,hp] (kn 2 (sn b1)),zH [atan u,hp] (kn 2 (sn b2))⟩
 rw [zy3,hs]
 generalize cos (atan u)=c at *
 have e3:x*(1+u*u)=2*u:=by
  refine zfk (z:=(1+w)*(1+w)) (ne_of_gt (mp d0 d0)) ?_
  rw [show x*(1+u*u)*((1+w)*(1+w))=x*((1+w)*(1+w)+(u*(1+w))*(u*(1+w))) from ring [x,u,w],e1,
   show 2*u*((1+w)*(1+w))=2*(u*(1+w))*(1+w) from ring [u,w],e1]
  exact zkl [x,w] (congrArg (fun z=>x*z) w1:x*(w*w)=x*(1-x*x))
 have e4:x*((1+u*u)*(c*c))=x*1:=by rw [sq]
 refine (zkl [x,u,c] (congrArg (fun z=> -(c*c)*z) e3: -(c*c)*(x*(1+u*u))= -(c*c)*(2*u)):2*(u*c*c)=x*((1+u*u)*(c*c))).trans (e4.trans (mul_one x))
theorem zID {x y:Re} (hx:abs x<=1) (hy:abs y<=1) (h:x<=y):asin x<=asin y:=by
 have a:=zuy hx
 have b:=zuy hy
 rcases lt_or_le (asin y) (asin x) with k|k
 ·have:=znj b.2.1 (le_of_lt k) a.2.2
  rw [a.1,b.1] at this
  have e:=le_antisymm h this
  rw [e] at k
  exact absurd k (lt_irrefl _)
 ·exact k
end Go.Proofs.YtaoakfodkoifoaaGreat.An
namespace Go.Proofs.YtaoakfodkoifoaaGreat.An
theorem zKP {y:Re} (h:0<y):∃x,exp x=y:=by
 have hi:=zMo h
 have h0: -y⁻¹<=y:=zH [y⁻¹,y] (pn (le_of_lt hi) (le_of_lt h))
 obtain ⟨L,l0,hL⟩:=(zDq (-y⁻¹) y).lip h0
 have m:y*y⁻¹=1:=zpE (ne_of_gt h)
 obtain ⟨c,_,_,c3⟩:=zuz (f:=fun x=>exp x-y) h0 l0 (fun u v a b c d=>by
  show abs (exp u-y-(exp v-y))<=_
  rw [show exp u-y-(exp v-y)=exp u-exp v from by generalize exp u=p;generalize exp v=q;exact ring [p,q,y]]
  exact hL u v a b c d) (by
  show exp (-y⁻¹)-y<=0
  have e1:=zDp y⁻¹
  have e2:=zH0 (le_of_lt hi)
  have e3:=le_of_lt (zDo (-y⁻¹))
  generalize y⁻¹=i at *;generalize exp (-i)=E at *;generalize exp i=F at *
  have:E<=y:=zfR hi (by rw [m,<- e1];exact zH [E,F,i] (pn (mn e3 (sn e2)) e3))
  exact zH [E,y] (sn this)) (by
  show 0<=exp y-y
  have:=zH0 (le_of_lt h)
  generalize exp y=E at *
  exact zH [E,y] (pn (sn this) (qn 1)))
 exact ⟨c,zcy c3⟩
open Classical in
def log (y:Re):Re:=if h:0<y then Classical.choose (zKP h) else 0
theorem zHZ {y:Re} (h:0<y):exp (log y)=y:=by
 rw [log,dif_pos h];exact Classical.choose_spec (zKP h)
theorem zMw (d:Re):1+d<=exp d:=by
 rcases le_total 0 d with h|h
 ·exact zH0 h
 ·have h0:0 <= -d:=zlM h
  have k: -exp (- -d) - -exp (-0) <= -d-0:=Der.le ((Der.flip (a:=0) (b:= -d) (zDq (- -d) (-0))).neg) (Der.id 0 (-d)) h0 (fun z z1 _=>by
   show - -exp (-z)<=1
   have:=zJ4 (x:= -z) (y:=0) (zH [z] z1)
   rw [zp7] at this
   generalize exp (-z)=w at *
   exact zH [w] (sn this))
  rw [show - -d=d from ring [d],show (-0:Re)=0 from ring [],zp7] at k
  generalize exp d=w at *
  exact zH [w,d] (sn k)
theorem zKN {u v:Re} (hu:0<u) (hv:0<v):(log v-log u)*u<=v-u:=by
 have e:exp (log v-log u)*exp (log u)=exp (log v):=by
  rw [<- zH1,show log v-log u+log u=log v from by generalize log v=p;generalize log u=q;exact ring [p,q]]
 rw [zHZ hu,zHZ hv] at e
 have k:=zMw (log v-log u)
 generalize log v-log u=d at *
 generalize exp d=w at *
 exact zH [d,u,v] (zN2 (show v-u-d*u=u*(w-(1+d)) by rw [<- e];exact ring [u,w,d]) (mn (le_of_lt hu) (sn k)))
theorem ab1 {x:Re} (h1: -1<=x) (h2:x<=1):abs x<=1:=zeU h1 h2
theorem zwi {x:Re} (h1: -1<=x) (h2:x<=1): -hp<=asin x/\asin x<=hp:=(zuy (ab1 h1 h2)).2
theorem zpL {x y:Re} (h1: -1<=x) (h:x<=y) (h2:y<=1):asin x<=asin y:=zID (ab1 h1 (le_trans h h2)) (ab1 (le_trans h1 h) h2) h
theorem zrz {x:Re} (h1: -1<=x) (h2:x<=1):sin (asin x)=x:=(zuy (ab1 h1 h2)).1
theorem zrY {a:Re} (h1: -hp<=a) (h2:a<=hp):asin (sin a)=a:=by
 have b:=zwi (znl a) (zpp a)
 exact zLv b.1 b.2 h1 h2 (zrz (znl a) (zpp a))
end Go.Proofs.YtaoakfodkoifoaaGreat.An
