/- The law FnCylinders gives true, whatever bytes come in, where the listed tables hold what the program's text lays. The card: the tables tied to the text. No other conditions. (One of the texts of its proof, put together by a program of this session.) -/
import Derived.Test.YtkenfaengphiiaaGreatDoorZX5
import Derived.Laws.BitsLemmas
set_option linter.unusedSectionVars false
set_option linter.unusedSimpArgs false
set_option linter.unusedVariables false
namespace Go.Proofs.YtkenfaengphiiaaGreatDoor.DFnCylinders
open Go Go.RowKit Go.Proofs.YtkenfaengphiiaaGreatDoor.PFnCylinders Go.Proofs.YtkenfaengphiiaaGreatDoorW.PrintWords Go.Proofs.YtkenfaengphiiaaGreatDoorW.PrintLast Go.Proofs.YtkenfaengphiiaaGreatDoorW.PrintMore
def Bytes (l:List Int):Prop:=True/\∀x∈l,0<=x/\x<=255
theorem zhd {n:Int} (h: -9223372036854775808<=n) (k:n<=9223372036854775807):wrap64 n=n:=by unfold wrap64;omega
theorem zuU (n:Int):IntKind.u64.wrap n=n%18446744073709551616:=by simp [IntKind.wrap,IntKind.bits,IntKind.signed]
theorem zHp {x:Int} (h0:0<=x) (h1:x<18446744073709551616):bits .and .u64 x 255=x%256:=
 bits_mask .u64 64 (by decide) (fun n h h'=>by rw [zuU];omega) 8 (by decide) x h0 h1
theorem getD_lt {l:List Int} {i:Nat} (h:i<l.length):l.getD i 0=l[i]:=by simp [List.getD,h]
theorem zHD {l:List Int} {i:Nat} (h:l.length<=i):l.getD i 0=0:=by simp [List.getD,List.getElem?_eq_none h]
theorem zGW {l:List Int} (hl:Bytes l) (i:Int):0<=rd l i/\rd l i<=255:=by
 unfold rd
 rcases Nat.lt_or_ge i.toNat l.length with h|h
 ·rw [getD_lt h];exact hl.2 _ (List.getElem_mem h)
 ·rw [zHD h];decide
theorem zxv (x:Int):0<=wrap64 (bits .and .u64 ((IntKind.u64.wrap x)/1099511627776) 255)/\wrap64 (bits .and .u64 ((IntKind.u64.wrap x)/1099511627776) 255)<=255:=by
 rw [zuU]
 have h:=Int.emod_nonneg x (show (18446744073709551616:Int)≠0 by decide)
 have h':=Int.emod_lt_of_pos x (show (0:Int)<18446744073709551616 by decide)
 rw [zHp (by omega) (by omega)]
 rw [zhd (by omega) (by omega)];omega
theorem zyQ {l:List Int} (hl:Bytes l) {s:Int} (r:Int) (h0:0<=s) (h1:s<=1000000000):
  ∃b r',za9.f l s r=some (b,s+1,r')/\0<=b/\b<=255:=by
 have hb:=zGW hl s
 have e1:wrap64 (s+1)=s+1:=zhd (by omega) (by omega)
 have e2:wrap64 (rd l s)=rd l s:=zhd (by omega) (by omega)
 unfold za9.f
 simp only [e1,e2,h0,if_true]
 split
 ·split
  ·exact ⟨_,_,rfl,hb.1,hb.2⟩
  ·exact ⟨_,_,rfl,zxv _⟩
 ·split
  ·exact ⟨_,_,rfl,by decide,by decide⟩
  ·exact ⟨_,_,rfl,zxv _⟩
theorem zk5 {l:List Int} (hl:Bytes l) {s:Int} (r:Int) (h0:0<=s) (h1:s<=999999990) (n:Int) (hn:n<=1000000000):
  ∃x s' r',zJ.f l s r n=some (x,s',r')/\0<=x/\(1<=n->x<n)/\s<=s'/\s'<=s+2:=by
 unfold zJ.f
 by_cases h:n<=1
 ·rw [if_pos h];exact ⟨0,s,r,rfl,by decide,fun _=>by omega,by omega,by omega⟩
 rw [if_neg h]
 obtain ⟨b,r',e,b0,b1⟩:=zyQ hl r h0 (by omega)
 rw [e]
 simp only [Option.bind_some]
 have hz:¬n=0:=by omega
 have tm:∀x:Int,0<=x->0<=Int.tmod x n/\Int.tmod x n<n:=fun x hx=>⟨Int.tmod_nonneg _ hx,by rw [Int.tmod_eq_emod_of_nonneg hx];exact Int.emod_lt_of_pos _ (by omega)⟩
 by_cases h2:n>200
 ·rw [if_pos h2]
  obtain ⟨c,r2,e2,c0,c1⟩:=zyQ hl r' (s:=s+1) (by omega) (by omega)
  rw [e2]
  simp only [Option.bind_some,hz,if_false]
  have ew:wrap64 (wrap64 (b*256)+c)=b*256+c:=by rw [zhd (n:=b*256) (by omega) (by omega),zhd (by omega) (by omega)]
  rw [ew]
  exact ⟨_,_,_,rfl,(tm _ (by omega)).1,fun _=>(tm _ (by omega)).2,by omega,by omega⟩
 ·rw [if_neg h2]
  simp only [hz,if_false]
  exact ⟨_,_,_,rfl,(tm _ (by omega)).1,fun _=>(tm _ (by omega)).2,by omega,by omega⟩
theorem zoL {l:List Int} (hl:Bytes l) {s:Int} (r:Int) (h0:0<=s) (h1:s<=999999990) (L:List Int) (hL:1<=L.length) (hL':L.length<=1000):
  ∃x s' r',zS.f l s r L=some (x,s',r')/\x∈L/\s<=s'/\s'<=s+2:=by
 unfold zS.f
 obtain ⟨x,s',r',e,x0,x1,s1,s2⟩:=zk5 hl r h0 h1 (L.length:Int) (by omega)
 rw [e]
 have hx:=x1 (by omega)
 simp only [Option.bind_some,x0,hx,if_true]
 refine ⟨_,_,_,rfl,?_,s1,s2⟩
 unfold rd
 have hlt:x.toNat<L.length:=by omega
 rw [getD_lt hlt]
 exact List.getElem_mem hlt
theorem zz4 {l:List Int} (hl:Bytes l) {s:Int} (r:Int) (h0:0<=s) (h1:s<=999999990) (n:Int) (hn:n<=1000000000):
  ∃b s' r',zax.f l s r n=some (b,s',r')/\s<=s'/\s'<=s+2:=by
 unfold zax.f
 obtain ⟨x,s',r',e,x0,x1,s1,s2⟩:=zk5 hl r h0 h1 n hn
 rw [e]
 exact ⟨_,_,_,rfl,s1,s2⟩
theorem zBV (x:Int) {m:Int} (hm:0<=m): -m<=Int.tmod x (m+1)/\Int.tmod x (m+1)<=m:=by
 rcases Int.le_total 0 x with h|h
 ·have a:=Int.tmod_nonneg (m+1) h
  have b:=Int.emod_lt_of_pos x (show 0<m+1 by omega)
  rw [Int.tmod_eq_emod_of_nonneg h] at *
  omega
 ·have e:Int.tmod x (m+1)= - Int.tmod (-x) (m+1):=by rw [Int.neg_tmod,Int.neg_neg]
  have b:=Int.emod_lt_of_pos (-x) (show 0<m+1 by omega)
  have a:=Int.emod_nonneg (-x) (show m+1≠0 by omega)
  rw [e,Int.tmod_eq_emod_of_nonneg (by omega)]
  omega
theorem zIE {x m:Int} (hm:0<=m) (h: -m<=x/\x<=m) (y:Int): -m<=shr .i64 x y/\shr .i64 x y<=m:=by
 unfold shr
 have hp:(0:Int)<2^(min y.toNat IntKind.i64.bits):=Int.pow_pos (by decide)
 generalize (2:Int)^(min y.toNat IntKind.i64.bits)=p at *
 have h1:=Int.ediv_mul_le x (show p≠0 by omega)
 have h2:=Int.lt_ediv_add_one_mul_self x hp
 constructor
 ·rw [Int.le_ediv_iff_mul_le hp]
  have:=Int.mul_le_mul_of_nonneg_left (show (1:Int)<=p by omega) hm
  have e: -m*p= -(m*p):=Int.neg_mul m p
  omega
 ·rcases Int.lt_or_le x 0 with k|k
  ·have:=Int.ediv_neg_of_neg_of_pos k hp;omega
  ·have:=Int.ediv_le_self p k;omega
theorem zEW {l:List Int} (hl:Bytes l) {m:Int} (hm:1<=m) (hm':m<=4611686018427387904):∀(j:Nat),j<=7->∀(k:Nat) (x s r:Int),j<k->0<=s->s+(j:Int)<=999999000->
  ∃y s' r',zaE.l0 k m x (7-(j:Int)) l s r=some (y,s',r') /\ -m<=y/\y<=m/\s<=s'/\s'<=s+j+6:=by
 intro j
 induction j with
 | zero=>
  intro _ k x s r hk h0 h1
  obtain ⟨k,rfl⟩:∃k',k=k'+1:=⟨k-1,by omega⟩
  have n7:¬(7-((0:Nat):Int)<7):=by decide
  have em:wrap64 (m+1)=m+1:=zhd (by omega) (by omega)
  have ez:¬(m+1=0):=by omega
  unfold zaE.l0
  simp only [n7,if_false,em,ez]
  have tb:=zBV x (show 0<=m by omega)
  obtain ⟨a,s1,r1,e1,a0,a1,p1,q1⟩:=zk5 hl r h0 (by omega) 5 (by decide)
  rw [e1];simp only [Option.bind_some]
  have ng:∀y:Int,-m<=y->y<=m-> -m<=wrap64 (-y)/\wrap64 (-y)<=m:=fun y y1 y2=>by rw [zhd (by omega) (by omega)];omega
  by_cases c0:a=0
  ·rw [if_pos c0]
   obtain ⟨b,s2,r2,e2,b0,b1,p2,q2⟩:=zk5 hl r1 (s:=s1) (by omega) (by omega) 40 (by decide)
   rw [e2];simp only [Option.bind_some]
   have hw:0<=IntKind.u64.wrap b:=by rw [zuU];omega
   simp only [hw,if_true]
   obtain ⟨c,s3,r3,e3,p3,q3⟩:=zz4 hl r2 (s:=s2) (by omega) (by omega) 2 (by decide)
   rw [e3];simp only [Option.bind_some]
   have sb:=zIE (show 0<=m by omega) tb (IntKind.u64.wrap b)
   split
   ·exact ⟨_,_,_,rfl,(ng _ sb.1 sb.2).1,(ng _ sb.1 sb.2).2,by omega,by omega⟩
   ·exact ⟨_,_,_,rfl,sb.1,sb.2,by omega,by omega⟩
  ·rw [if_neg c0]
   by_cases c1:a=1
   ·rw [if_pos c1]
    obtain ⟨b,s2,r2,e2,bm,p2,q2⟩:=zoL hl r1 (s:=s1) (by omega) (by omega) [0,1,m,wrap64 (Int.tdiv m 2)] (by simp) (by simp)
    rw [e2];simp only [Option.bind_some]
    have hb: -m<=b/\b<=m:=by
     have ht:Int.tdiv m 2=m/2:=Int.tdiv_eq_ediv_of_nonneg (by omega)
     rw [ht,zhd (n:=m/2) (by omega) (by omega)] at bm
     simp only [List.mem_cons,List.not_mem_nil,or_false] at bm
     omega
    obtain ⟨c,s3,r3,e3,p3,q3⟩:=zz4 hl r2 (s:=s2) (by omega) (by omega) 2 (by decide)
    rw [e3];simp only [Option.bind_some]
    split
    ·exact ⟨_,_,_,rfl,(ng _ hb.1 hb.2).1,(ng _ hb.1 hb.2).2,by omega,by omega⟩
    ·exact ⟨_,_,_,rfl,hb.1,hb.2,by omega,by omega⟩
   ·rw [if_neg c1]
    obtain ⟨c,s3,r3,e3,p3,q3⟩:=zz4 hl r1 (s:=s1) (by omega) (by omega) 2 (by decide)
    rw [e3];simp only [Option.bind_some]
    split
    ·exact ⟨_,_,_,rfl,(ng _ tb.1 tb.2).1,(ng _ tb.1 tb.2).2,by omega,by omega⟩
    ·exact ⟨_,_,_,rfl,tb.1,tb.2,by omega,by omega⟩
 | succ j ih=>
  intro hj k x s r hk h0 h1
  obtain ⟨k,rfl⟩:∃k',k=k'+1:=⟨k-1,by omega⟩
  have n7:7-((j+1:Nat):Int)<7:=by omega
  unfold zaE.l0
  simp only [n7,if_true]
  obtain ⟨b,r',e,b0,b1⟩:=zyQ hl r h0 (by omega)
  rw [e];simp only [Option.bind_some]
  have ew:wrap64 (7-((j+1:Nat):Int)+1)=7-(j:Int):=(zhd (n:=7-((j+1:Nat):Int)+1) (by omega) (by omega)).trans (by omega)
  rw [ew]
  obtain ⟨y,s',r2,e2,y1,y2,p,q⟩:=ih (by omega) k (bits .xor .i64 (wrap64 (x*256)) b) (s+1) r' (by omega) (by omega) (by omega)
  exact ⟨y,s',r2,e2,y1,y2,by omega,by omega⟩
theorem zxe {l:List Int} (hl:Bytes l) {m:Int} (hm:1<=m) (hm':m<=4611686018427387904) {k:Nat} (hk:8<=k) {s:Int} (r:Int) (h0:0<=s) (h1:s<=999998900):
  ∃y s' r',zaE.f k l s r m=some (y,s',r') /\ -m<=y/\y<=m/\s<=s'/\s'<=s+20:=by
 unfold zaE.f
 obtain ⟨y,s',r',e,y1,y2,p,q⟩:=zEW hl hm hm' 7 (by decide) k 0 s r (by omega) h0 (by omega)
 exact ⟨y,s',r',e,y1,y2,p,by omega⟩
theorem zGu {a:Int} (h: -9000000000<=a/\a<=9000000000):∃b,zbi.f a=some b /\ -1800000000<b/\b<=1800000000:=by
 have ht:Int.tmod a 3600000000=a-3600000000*Int.tdiv a 3600000000:=Int.tmod_def a 3600000000
 have tb:=zBV a (m:=3599999999) (by decide)
 rw [show (3599999999:Int)+1=3600000000 from rfl] at tb
 unfold zbi.f
 generalize Int.tmod a 3600000000=t at *
 by_cases c:t>1800000000
 ·rw [if_pos c]
  have e1:wrap64 (t-3600000000)=t-3600000000:=zhd (by omega) (by omega)
  rw [e1,zhd (n:=t-3600000000+3600000000) (by omega) (by omega)]
  by_cases c2:t-3600000000 <= -1800000000
  ·rw [if_pos c2];exact ⟨_,rfl,by omega,by omega⟩
  ·rw [if_neg c2];exact ⟨_,rfl,by omega,by omega⟩
 ·rw [if_neg c]
  by_cases c2:t <= -1800000000
  ·rw [if_pos c2,zhd (by omega) (by omega)];exact ⟨_,rfl,by omega,by omega⟩
  ·rw [if_neg c2];exact ⟨_,rfl,by omega,by omega⟩
def VP (a b:Int):Prop:= -900000000<=a/\a<=900000000 /\ -1800000000<b/\b<=1800000000
theorem zfx {l:List Int} (hl:Bytes l) {k:Nat} (hk:8<=k) {s:Int} (r:Int) (h0:0<=s) (h1:s<=999998000):
  ∃a b s' r',zby.f k l s r=some (a,b,s',r')/\VP a b/\s<=s'/\s'<=s+50:=by
 unfold zby.f
 obtain ⟨a,s1,r1,e1,a1,a2,p1,q1⟩:=zxe hl (m:=900000000) (by decide) (by decide) hk r h0 (by omega)
 rw [e1];simp only [Option.bind_some]
 obtain ⟨b,s2,r2,e2,b1,b2,p2,q2⟩:=zxe hl (m:=1800000000) (by decide) (by decide) hk r1 (s:=s1) (by omega) (by omega)
 rw [e2];simp only [Option.bind_some]
 obtain ⟨c,e3,c1,c2⟩:=zGu (a:=b) (by omega)
 rw [e3];simp only [Option.bind_some]
 obtain ⟨t,s3,r3,e4,t0,t1,p3,q3⟩:=zk5 hl r2 (s:=s2) (by omega) (by omega) 10 (by decide)
 rw [e4];simp only [Option.bind_some]
 obtain ⟨k',rfl⟩:∃k',k=k'+1:=⟨k-1,by omega⟩
 by_cases z0:t=0
 ·rw [if_pos z0]
  obtain ⟨x,s4,r4,e5,xm,p4,q4⟩:=zoL hl r3 (s:=s3) (by omega) (by omega) [900000000,-900000000,0,1] (by decide) (by decide)
  rw [e5];simp only [Option.bind_some]
  simp only [List.mem_cons,List.not_mem_nil,or_false] at xm
  exact ⟨_,_,_,_,rfl,⟨by omega,by omega,c1,c2⟩,by omega,by omega⟩
 ·rw [if_neg z0]
  by_cases z1:t=1
  ·rw [if_pos z1]
   obtain ⟨x,s4,r4,e5,xm,p4,q4⟩:=zoL hl r3 (s:=s3) (by omega) (by omega) [1800000000,-1799999999,0,900000000,-900000000] (by decide) (by decide)
   rw [e5];simp only [Option.bind_some]
   simp only [List.mem_cons,List.not_mem_nil,or_false] at xm
   exact ⟨_,_,_,_,rfl,⟨a1,a2,by omega,by omega⟩,by omega,by omega⟩
  ·rw [if_neg z1]
   exact ⟨_,_,_,_,rfl,⟨a1,a2,c1,c2⟩,by omega,by omega⟩
theorem zHF (l:List Int):zho.f l=some (l,0,0):=rfl
theorem zFA {l:List Int} (h2:∀x∈l,(Lit.int .u8 x).wf=true):Bytes l:=⟨trivial,fun x hx=>by
 have:=h2 x hx
 have e1:IntKind.u8.min=0:=rfl
 have e2:IntKind.u8.max=255:=rfl
 simp only [Lit.wf,Bool.and_eq_true,decide_eq_true_eq,e1,e2] at this
 exact this⟩
def PJ (k a b c d:Int):Prop:=(1<=k/\k<=4)/\a=0/\(-1800000000<b/\b<=1800000000)/\(-890000000<=c/\c<=890000000)/\d=0/\(k=2\/k=4->c=0)
theorem in_f (a b c:Int):∃t,zbd.f a b c=some t/\(t=true↔b<=a/\a<=c):=by
 unfold zbd.f
 by_cases h:a>=b
 ·rw [if_pos h];exact ⟨_,rfl,by simp;omega⟩
 ·rw [if_neg h];exact ⟨_,rfl,by simp;omega⟩
theorem ok_f (a b:Int):∃t,zbX.f a b=some t/\(t=true↔(-900000000<=a/\a<=900000000)/\(-1799999999<=b/\b<=1800000000)):=by
 unfold zbX.f
 obtain ⟨t,e,h⟩:=in_f a (-900000000) 900000000
 rw [e];simp only [Option.bind_some]
 by_cases c:t=true
 ·rw [if_pos c]
  obtain ⟨u,e2,h2⟩:=in_f b (-1799999999) 1800000000
  rw [e2];simp only [Option.bind_some]
  exact ⟨_,rfl,by rw [h2];exact ⟨fun x=>⟨h.1 c,x⟩,fun x=>x.2⟩⟩
 ·rw [if_neg c]
  exact ⟨_,rfl,by simp only [Bool.false_eq_true,false_iff];exact fun x=>c (h.2 x.1)⟩
theorem zIu (a:Int):∃t,zaP.f a=some t:=by
 unfold zaP.f
 obtain ⟨t,e,_⟩:=in_f a (-890000000) 890000000
 rw [e];exact ⟨_,rfl⟩
theorem zIJ {k:Nat} (hk:8<=k) {n:Int} (hn:1<=n/\n<=4) (b c:Int):∃t,zah.f k n 0 b c 0=some t:=by
 unfold zah.f
 obtain ⟨k,rfl⟩:∃k',k=k'+4:=⟨k-4,by omega⟩
 have j0:∀x:Bool,∃t,zah.j0 (k+4) x n 0 b c 0=some t:=fun x=>by
  rw [zah.j0]
  cases x
  ·have:n=1\/n=2\/n=3\/n=4:=by omega
   rcases this with rfl|rfl|rfl|rfl
   ·exact ⟨_,rfl⟩
   ·simp only [Bool.false_eq_true,if_false,zah.j1,zah.j2,beq_self_eq_true,if_true]
    by_cases z:c=0
    ·simp [z]
    ·simp [z]
   ·exact ⟨_,rfl⟩
   ·simp only [Bool.false_eq_true,if_false,zah.j1,zah.j2,beq_self_eq_true,if_true]
    by_cases z:c=0
    ·simp [z]
    ·simp [z]
  ·exact ⟨_,rfl⟩
 obtain ⟨t,e,_⟩:=ok_f 0 b
 rw [e];simp only [Option.bind_some]
 obtain ⟨u,e2⟩:=zIu c
 obtain ⟨v,e3⟩:=zIu 0
 rw [e2,e3];simp only [Option.bind_some]
 cases t
 ·exact j0 true
 ·cases u
  ·exact j0 true
  ·exact j0 (!v)
theorem zDG {l:List Int} (hl:Bytes l) {k:Nat} (hk:9<=k) {s:Int} (r:Int) (h0:0<=s) (h1:s<=999997000) {n:Int} (hn:1<=n/\n<=4):
  ∃b c s' r',zau.f k l s r n=some (n,0,b,c,0,s',r')/\PJ n 0 b c 0/\s<=s'/\s'<=s+60:=by
 unfold zau.f
 obtain ⟨a,b,s1,r1,e1,v1,p1,q1⟩:=zfx hl (k:=k) (by omega) r h0 (by omega)
 rw [e1];simp only [Option.bind_some]
 obtain ⟨k,rfl⟩:∃k',k=k'+2:=⟨k-2,by omega⟩
 obtain ⟨t,s2,r2,e2,t0,t1,p2,q2⟩:=zk5 hl r1 (s:=s1) (by omega) (by omega) 161 (by decide)
 have tt:=t1 (by decide)
 have w1:wrap64 (t-80)=t-80:=zhd (by omega) (by omega)
 have w2:wrap64 ((t-80)*10000000)=(t-80)*10000000:=zhd (by omega) (by omega)
 have std:∀n:Int,zau.j0 (k+2) n true l s1 r1 n 0 b 0 0=some (n,0,b,(t-80)*10000000,0,s2,r2):=fun n=>by
  rw [zau.j0]
  rw [if_pos rfl,e2];simp only [Option.bind_some,w1,w2]
 have nstd:n=2\/n=4->zau.j0 (k+2) n false l s1 r1 n 0 b 0 0=some (n,0,b,0,0,s1,r1):=fun h=>by
  rw [zau.j0]
  obtain ⟨u,e3,h3⟩:=in_f n 5 9
  have u0:u=false:=by cases u;rfl;exact absurd (h3.1 rfl) (by omega)
  subst u0
  rw [e3];simp only [Option.bind_some,Bool.false_eq_true,if_false]
  rw [zau.j1]
  obtain ⟨v,e4,h4⟩:=in_f n 10 12
  have v0:v=false:=by cases v;rfl;exact absurd (h4.1 rfl) (by omega)
  subst v0
  have n16:(n==16)=false:=by simp;omega
  rw [e4,n16];simp only [Option.bind_some,Bool.false_eq_true,if_false]
 obtain ⟨_,_,b1,b2⟩:=v1
 have:n=1\/n=2\/n=3\/n=4:=by omega
 rcases this with rfl|rfl|rfl|rfl
 ·rw [if_pos rfl,std]
  exact ⟨_,_,_,_,rfl,⟨by decide,rfl,⟨b1,b2⟩,by omega,rfl,fun h=>by omega⟩,by omega,by omega⟩
 ·rw [if_neg (by decide),show ((2:Int)==3)=false from rfl,nstd (.inl rfl)]
  exact ⟨_,_,_,_,rfl,⟨by decide,rfl,⟨b1,b2⟩,by omega,rfl,fun h=>rfl⟩,by omega,by omega⟩
 ·rw [if_neg (by decide),show ((3:Int)==3)=true from rfl,std]
  exact ⟨_,_,_,_,rfl,⟨by decide,rfl,⟨b1,b2⟩,by omega,rfl,fun h=>by omega⟩,by omega,by omega⟩
 ·rw [if_neg (by decide),show ((4:Int)==3)=false from rfl,nstd (.inr rfl)]
  exact ⟨_,_,_,_,rfl,⟨by decide,rfl,⟨b1,b2⟩,by omega,rfl,fun h=>rfl⟩,by omega,by omega⟩
theorem zH9 {l:List Int} (hl:Bytes l) {k:Nat} (hk:8<=k) {s:Int} (r:Int) (h0:0<=s) (h1:s<=999997000):
  ∃x z s' r',zfS.f k l s r=some (x,z,s',r')/\s<=s'/\s'<=s+60:=by
 unfold zfS.f
 obtain ⟨a,b,s1,r1,e1,v1,p1,q1⟩:=zfx hl hk r h0 (by omega)
 rw [e1];simp only [Option.bind_some]
 obtain ⟨t,s2,r2,e2,t0,t1,p2,q2⟩:=zk5 hl r1 (s:=s1) (by omega) (by omega) 16 (by decide)
 rw [e2];simp only [Option.bind_some]
 by_cases z0:t=0
 ·rw [if_pos z0]
  obtain ⟨x,s3,r3,e3,xm,p3,q3⟩:=zoL hl r2 (s:=s2) (by omega) (by omega) [900000001,(-900000001),(-9223372036854775808)] (by decide) (by decide)
  rw [e3];simp only [Option.bind_some]
  exact ⟨_,_,_,_,rfl,by omega,by omega⟩
 rw [if_neg z0]
 by_cases z1:t=1
 ·rw [if_pos z1]
  obtain ⟨x,s3,r3,e3,xm,p3,q3⟩:=zoL hl r2 (s:=s2) (by omega) (by omega) [1800000001,(-1800000000),9223372036854775807] (by decide) (by decide)
  rw [e3];simp only [Option.bind_some]
  exact ⟨_,_,_,_,rfl,by omega,by omega⟩
 ·rw [if_neg z1]
  exact ⟨_,_,_,_,rfl,by omega,by omega⟩
theorem zEl (a:Int):∃b,zbi.f a=some b:=by
 unfold zbi.f
 split
 ·split<;>exact ⟨_,rfl⟩
 ·split<;>exact ⟨_,rfl⟩
theorem zHm (a b:Int):∃c,zhf.f a b=some c:=by
 unfold zhf.f
 split<;>exact ⟨_,rfl⟩
theorem zHo (a b:Int):∃c,zfT.f a b=some c:=by
 unfold zfT.f
 split<;>exact ⟨_,rfl⟩
theorem zHi {l:List Int} (hl:Bytes l) {k:Nat} (hk:10<=k) {s:Int} (r:Int) (h0:0<=s) (h1:s<=999996000) {n:Int} (hn:1<=n/\n<=4) (b c:Int):
  ∃x z s' r',zak.f k l s r n 0 b c 0=some (x,z,s',r')/\s<=s'/\s'<=s+100:=by
 unfold zak.f
 obtain ⟨x,z,s1,r1,e1,p1,q1⟩:=zH9 hl (k:=k) (by omega) r h0 (by omega)
 rw [e1];simp only [Option.bind_some]
 obtain ⟨t,s2,r2,e2,p2,q2⟩:=zz4 hl r1 (s:=s1) (by omega) (by omega) 4 (by decide)
 rw [e2];simp only [Option.bind_some]
 obtain ⟨k,rfl⟩:∃k',k=k'+2:=⟨k-2,by omega⟩
 have j0:∀y:Bool,∃x' z' s' r',zak.j0 (k+2) y l s2 r2 n 0 b c 0 x z=some (x',z',s',r')/\s<=s'/\s'<=s+100:=fun y=>by
  rw [zak.j0]
  cases y
  ·simp only [Bool.false_eq_true,if_false]
   unfold zfo.f
   obtain ⟨u,e3,h3⟩:=in_f n 1 4
   have u0:u=true:=h3.2 hn
   subst u0
   rw [e3];simp only [Option.bind_some,if_true]
   rw [if_neg (by decide)]
   rw [zak.j1]
   obtain ⟨g,s3,r3,e4,_,_,p3,q3⟩:=zk5 hl r2 (s:=s2) (by omega) (by omega) 81 (by decide)
   rw [e4];simp only [Option.bind_some]
   obtain ⟨m,e5⟩:=zHm (wrap64 (0+(wrap64 ((wrap64 (g-40))*10000000)))) 900000000
   rw [e5];simp only [Option.bind_some]
   obtain ⟨m',e6⟩:=zHo (-900000000) m
   rw [e6];simp only [Option.bind_some]
   obtain ⟨h,s4,r4,e7,_,_,p4,q4⟩:=zk5 hl r3 (s:=s3) (by omega) (by omega) 161 (by decide)
   rw [e7];simp only [Option.bind_some]
   obtain ⟨o,e8⟩:=zEl (wrap64 (b+(wrap64 ((wrap64 (h-80))*10000000))))
   rw [e8];simp only [Option.bind_some]
   exact ⟨_,_,_,_,rfl,by omega,by omega⟩
  ·exact ⟨_,_,_,_,rfl,by omega,by omega⟩
 by_cases ht:t=true
 ·rw [if_pos ht];exact j0 true
 ·rw [if_neg ht]
  obtain ⟨u,e3,_⟩:=ok_f x z
  rw [e3];simp only [Option.bind_some]
  exact j0 (!u)
theorem zG2 {l:List Int} (hl:Bytes l) {k:Nat} (hk:20<=k):∃n a b c d x z,zam.f k l 1 4=some (n,a,b,c,d,x,z)/\PJ n a b c d/\VP x z:=by
 unfold zam.f
 rw [zHF];simp only [Option.bind_some]
 have w0:wrap64 (wrap64 (4-1)+1)=4:=by decide +kernel
 rw [w0]
 obtain ⟨t,s1,r1,e1,t0,t1,p1,q1⟩:=zk5 hl 0 (s:=0) (by decide) (by decide) 4 (by decide)
 rw [e1];simp only [Option.bind_some]
 have tt:=t1 (by decide)
 have w1:wrap64 (1+t)=1+t:=zhd (by omega) (by omega)
 rw [w1]
 obtain ⟨b,c,s2,r2,e2,v2,p2,q2⟩:=zDG hl (k:=k) (by omega) r1 (s:=s1) (by omega) (by omega) (n:=1+t) (by omega)
 rw [e2];simp only [Option.bind_some]
 obtain ⟨u,e3⟩:=zIJ (k:=k) (by omega) (n:=1+t) (by omega) b c
 rw [e3];simp only [Option.bind_some]
 obtain ⟨k,rfl⟩:∃k',k=k'+1:=⟨k-1,by omega⟩
 have j0:∀n b c:Int,PJ n 0 b c 0->∃n' a' b' c' d' x z,zam.j0 (k+1) l s2 r2 n 0 b c 0=some (n',a',b',c',d',x,z)/\PJ n' a' b' c' d'/\VP x z:=fun n b c v=>by
  rw [zam.j0]
  obtain ⟨x,z,s3,r3,e4,p3,q3⟩:=zHi hl (k:=k) (by omega) r2 (s:=s2) (by omega) (by omega) v.1 b c
  rw [e4];simp only [Option.bind_some]
  obtain ⟨o,e5,h5⟩:=ok_f x z
  rw [e5];simp only [Option.bind_some]
  by_cases ho:o=true
  ·rw [if_pos ho]
   have:=h5.1 ho
   exact ⟨_,_,_,_,_,_,_,rfl,v,⟨by omega,by omega,by omega,by omega⟩⟩
  ·rw [if_neg ho]
   obtain ⟨x',z',s4,r4,e6,v6,_,_⟩:=zfx hl (k:=k) (by omega) r3 (s:=s3) (by omega) (by omega)
   rw [e6];simp only [Option.bind_some]
   exact ⟨_,_,_,_,_,_,_,rfl,v,v6⟩
 by_cases hu:u=true
 ·rw [if_pos hu];exact j0 _ _ _ v2
 ·rw [if_neg hu];exact j0 1 0 0 ⟨by decide,rfl,by decide,by decide,rfl,fun h=>by omega⟩
end Go.Proofs.YtkenfaengphiiaaGreatDoor.DFnCylinders
