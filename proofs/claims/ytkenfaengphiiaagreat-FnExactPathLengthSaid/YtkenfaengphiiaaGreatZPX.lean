/- The law FnExactPathLength gives true, whatever comes in; each argument reads behind the call as it read before. No conditions. (One of the texts of its proof, put together by a program of this session.) -/
import Derived.Test.YtkenfaengphiiaaGreatZQ
import Derived.Test.YtkenfaengphiiaaGreatZX0
set_option linter.unusedSectionVars false
set_option linter.unusedSimpArgs false
set_option linter.unusedVariables false
noncomputable section
namespace Go.Proofs.YtkenfaengphiiaaGreat.PFnExactPathLength
open Go.RowKit Go.Proofs.YtkenfaengphiiaaGreatW.PrintWords Go.Proofs.YtkenfaengphiiaaGreatW.PrintLast Go.Proofs.YtkenfaengphiiaaGreatW.PrintMore
open Ev in
def elL (l:List S24):Nat->Int->Ev.Rng .i64×Ev.Rng .i64:=fun _ j=>(.w .i64 (zdx l j).f0,.w .i64 (zdx l j).f1)
def inS (x:S24):Bool:=Ev.inB .i64 x.f0&&Ev.inB .i64 x.f1
theorem len_in {l:List S24} (h:l.length<=1048576):Ev.inB .i64 ((l.length:Nat):Int)=true:=by
 simp only [Ev.inB,Bool.and_eq_true,decide_eq_true_eq];omega
@[reducible] def ambL (l:List S24) (h:l.length<=1048576):Ev.Amb:=
 {A:=fun _=>some ⟨0,0,none⟩,len:=fun _=>l.length,cap:=fun _=>0,I:=fun _=>False,hlen:=fun _=>len_in h,el:=elL l,hel:=fun k j h0 h1=>⟨0,0,rfl,fun w hw=>hw.elim⟩}
def okL (a b c n:Int) (l:List S24):Bool:=(Ev.inB .i64 a&&Ev.inB .i64 b)&&(Ev.inB .i64 c&&Ev.inB .i64 n)&&l.all inS
def outT (y:Ev.T2 Ev.Iv Ev.I64):Int×Int×Int:=(y.a.lo.val,y.a.hi.val,y.b.val)
open Classical in
def pathF (a b c:Int) (l:List S24) (n:Int):Option (Int×Int×Int):=
 if h:l.length<=1048576/\okL a b c n l=true then some (outT (@Ev.zeo (ambL l h.1) ⟨.w .i64 a,.w .i64 b,.w .i64 c⟩ (.w .i64 n)).get) else none
theorem rd_in {l:List S24} (h:l.all inS=true) {j:Int} (h0:0<=j) (h1:j<(l.length:Int)):inS (zdx l j)=true:=by
 have hj:j.toNat<l.length:=by omega
 unfold zdx
 rw [List.getD_eq_getElem?_getD,List.getElem?_eq_getElem hj]
 exact List.all_eq_true.1 h _ (List.getElem_mem hj)
theorem w_in {k:Int} (h:Ev.inB .i64 k=true):(Ev.Rng.w .i64 k).val=k:=Ev.zfu h
@[reducible] def ambW (l:List S24) (h:l.length<=1048576) (hl:l.all inS=true) (A1:Option Addr) (c1:Nat) (w:World) (hr:Kd.C k24 w A1 l.length l):Ev.Amb:=
 {A:=fun _=>A1,len:=fun _=>l.length,cap:=fun _=>c1,I:=fun w'=>Below w.heap.size w w',hlen:=fun _=>len_in h,el:=elL l
  hel:=fun k j h0 h1=>by
   obtain ⟨a0,e0,z0,_⟩:=at_T24 hr 0 (by omega) (by omega)
   have hs:a0.spot=none:=by
    have z:=z0
    simp only [Addr.add,Int.toNat_zero,Nat.zero_mul,if_true] at z
    unfold World.cell? at z
    split at z
    ·cases hsp:a0.spot with
     | none=>rfl
     | some q=>rw [hsp] at z;simp at z
    ·cases z
   obtain ⟨b,o,sp⟩:=a0
   simp only at hs
   subst hs
   refine ⟨b,o,e0,fun w' hw'=>?_⟩
   obtain ⟨a,e,q1,q2⟩:=at_T24 (Kd.C_below hr hw') j h0 h1
   rw [e0] at e
   cases e
   have hi:=rd_in hl h0 h1
   simp only [inS,Bool.and_eq_true] at hi
   rw [Ev.addr_add] at q1 q2
   refine ⟨?_,?_⟩
   ·rw [q1];simp only [elL];rw [w_in hi.1]
   ·rw [q2];simp only [elL];rw [w_in hi.2]}
theorem path_calls (a0_0:Int) (a0_1:Int) (a0_2:Int) (A1:Option Addr) (c1:Nat) (l1:List (S24)) (a2:Int) (r1:Int) (r2:Int) (r3:Int) (w:World) (hr1:Kd.C k24 w A1 l1.length l1) (h:pathF a0_0 a0_1 a0_2 l1 a2=some (r1,r2,r3)):
  (Calls Tryz.prog 64 #[.agg #[.int .i64 a0_0,.int .i64 a0_1,.int .i64 a0_2],.slice A1 l1.length c1,.int .i64 a2] w fun e w'=>e= .returned (.tuple #[.agg #[.int .i64 r1,.int .i64 r2],.int .i64 r3])/\Below w.heap.size w w') /\
  (Calls Tryz.prog 66 #[.agg #[.int .i64 a0_0,.int .i64 a0_1,.int .i64 a0_2],.slice A1 l1.length c1,.int .i64 a2] w fun e w'=>e= .returned (.tuple #[.agg #[.int .i64 r1,.int .i64 r2],.int .i64 r3])/\Below w.heap.size w w'):=by
 unfold pathF at h
 split at h<;>try (cases h;done)
 rename_i hc
 obtain ⟨hlen,hok⟩:=hc
 have hok':=hok
 simp only [okL,Bool.and_eq_true] at hok
 obtain ⟨⟨⟨ha,hb⟩,⟨hcc,hn⟩⟩,hl⟩:=hok
 letI A:Ev.Amb:=ambW l1 hlen hl A1 c1 w hr1
 obtain ⟨r,e1,e2⟩:=Ev.path_one (show Ev.Amb.len 0<=1048576 from hlen) ⟨.w .i64 a0_0,.w .i64 a0_1,.w .i64 a0_2⟩ (.w .i64 a2)
 have ht:@Ev.zeo (ambL l1 hlen) ⟨.w .i64 a0_0,.w .i64 a0_1,.w .i64 a0_2⟩ (.w .i64 a2)=Ev.zeo ⟨.w .i64 a0_0,.w .i64 a0_1,.w .i64 a0_2⟩ (.w .i64 a2):=rfl
 rw [ht,Ev.Tr.zae e1] at h
 have hi:∀w',Ev.Inv0 w':=fun w'=>by
  unfold Ev.Inv0
  refine ⟨fun g cs hg=>(by cases hg),?_⟩
  unfold Ev.InvX
  intro q hq
  cases hq
 have hm:Ev.Am w:=fun w' hw=>⟨hw,hi w'⟩
 have hv:Ev.VRs (fun _=>none) [Ev.Enc.enc (⟨.w .i64 a0_0,.w .i64 a0_1,.w .i64 a0_2⟩:Ev.Ell),.arg 0,Ev.Enc.enc (Ev.Rng.w .i64 a2)] [.agg #[.int .i64 a0_0,.int .i64 a0_1,.int .i64 a0_2],.slice A1 l1.length c1,.int .i64 a2]:=by
  refine .cons ?_ (.cons (.arg 0) (.cons ?_ .nil))
  ·have:=Ev.VR.agg (ρ:=fun _=>none) (.cons (.i64 (Ev.Rng.w .i64 a0_0)) (.cons (.i64 (Ev.Rng.w .i64 a0_1)) (.cons (.i64 (Ev.Rng.w .i64 a0_2)) .nil)))
   rw [w_in ha,w_in hb,w_in hcc] at this
   exact this
  ·have:=Ev.VR.i64 (ρ:=fun _=>none) (Ev.Rng.w .i64 a2)
   rw [w_in hn] at this
   exact this
 have fin:∀x:Value,(∀ρ,Ev.VR ρ (Ev.Enc.enc r) x)->x= .tuple #[.agg #[.int .i64 r1,.int .i64 r2],.int .i64 r3]:=fun x hx=>by
  have hx1:=hx fun _=>none
  obtain ⟨⟨lo,hi⟩,c⟩:=r
  simp only [outT,Option.some.injEq,Prod.mk.injEq] at h
  obtain ⟨rfl,rfl,rfl⟩:=h
  cases hx1 with
  | tup t=>cases t with
   | cons p t=>cases t with
    | cons q t=>cases t;cases q;cases p with
     | agg p=>cases p with
      | cons u p=>cases p with
       | cons v p=>cases p;cases u;cases v;rfl
 refine ⟨?_,?_⟩
 ·refine (Ev.Tb.run_sound ((Ev.r_spec_PathLength _ _).trans e1) hv rfl hm).mono fun e w' ⟨x,he,hx,hb⟩=>?_
  exact ⟨by rw [he,fin x hx],hb⟩
 ·refine (Ev.Tb.run_sound ((Ev.r_impl_PathLength _ _).trans e2) hv rfl hm).mono fun e w' ⟨x,he,hx,hb⟩=>?_
  exact ⟨by rw [he,fin x hx],hb⟩
def zc4.f:=pathF
def zbS.f:=pathF
theorem zc4.calls (a0_0:Int) (a0_1:Int) (a0_2:Int) (A1:Option Addr) (c1:Nat) (l1:List (S24)) (a2:Int) (r1:Int) (r2:Int) (r3:Int) (w:World) (hr1:Kd.C k24 w A1 l1.length l1) (hc1:l1.length<=c1) (h:zc4.f a0_0 a0_1 a0_2 l1 a2=some (r1,r2,r3)):
  Calls Tryz.prog 64 #[.agg #[.int .i64 a0_0,.int .i64 a0_1,.int .i64 a0_2],.slice A1 l1.length c1,.int .i64 a2] w fun e w'=>e= .returned (.tuple #[.agg #[.int .i64 r1,.int .i64 r2],.int .i64 r3])/\Below w.heap.size w w':=
 (path_calls a0_0 a0_1 a0_2 A1 c1 l1 a2 r1 r2 r3 w hr1 h).1
theorem zbS.calls (a0_0:Int) (a0_1:Int) (a0_2:Int) (A1:Option Addr) (c1:Nat) (l1:List (S24)) (a2:Int) (r1:Int) (r2:Int) (r3:Int) (w:World) (hr1:Kd.C k24 w A1 l1.length l1) (hc1:l1.length<=c1) (h:zbS.f a0_0 a0_1 a0_2 l1 a2=some (r1,r2,r3)):
  Calls Tryz.prog 66 #[.agg #[.int .i64 a0_0,.int .i64 a0_1,.int .i64 a0_2],.slice A1 l1.length c1,.int .i64 a2] w fun e w'=>e= .returned (.tuple #[.agg #[.int .i64 r1,.int .i64 r2],.int .i64 r3])/\Below w.heap.size w w':=
 (path_calls a0_0 a0_1 a0_2 A1 c1 l1 a2 r1 r2 r3 w hr1 h).2
end Go.Proofs.YtkenfaengphiiaaGreat.PFnExactPathLength
