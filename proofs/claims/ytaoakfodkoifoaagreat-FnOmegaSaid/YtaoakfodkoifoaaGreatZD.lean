/- The law FnOmega gives true, whatever comes in; each argument reads behind the call as it read before. No conditions. (One of the texts of its proof, put together by a program of this session.) -/
import Derived.Test.YtaoakfodkoifoaaGreatZX2
import Derived.Laws.BitsLemmas
set_option linter.unusedSectionVars false
set_option linter.unusedSimpArgs false
set_option linter.unusedVariables false
namespace Go.Proofs.YtaoakfodkoifoaaGreat.DFnOmega
open Go Go.RowKit Go.Proofs.YtaoakfodkoifoaaGreat.PFnOmega Go.Proofs.YtaoakfodkoifoaaGreatW.PrintWords Go.Proofs.YtaoakfodkoifoaaGreatW.PrintLast Go.Proofs.YtaoakfodkoifoaaGreatW.PrintMore
def Bytes (l:List Int):Prop:=True/\∀x∈l,0<=x/\x<=255
theorem zjw {n:Int} (h: -9223372036854775808<=n) (k:n<=9223372036854775807):wrap64 n=n:=by unfold wrap64;omega
theorem zyO (n:Int):IntKind.u64.wrap n=n%18446744073709551616:=by simp [IntKind.wrap,IntKind.bits,IntKind.signed]
theorem zL9 {x:Int} (h0:0<=x) (h1:x<18446744073709551616):bits .and .u64 x 255=x%256:=
 bits_mask .u64 64 (by decide) (fun n h h'=>by rw [zyO];omega) 8 (by decide) x h0 h1
theorem getD_lt {l:List Int} {i:Nat} (h:i<l.length):l.getD i 0=l[i]:=by simp [List.getD,h]
theorem zMu {l:List Int} {i:Nat} (h:l.length<=i):l.getD i 0=0:=by simp [List.getD,List.getElem?_eq_none h]
theorem zLG {l:List Int} (hl:Bytes l) (i:Int):0<=rd l i/\rd l i<=255:=by
 unfold rd
 rcases Nat.lt_or_ge i.toNat l.length with h|h
 ·rw [getD_lt h];exact hl.2 _ (List.getElem_mem h)
 ·rw [zMu h];decide
theorem zBy (x:Int):0<=wrap64 (bits .and .u64 ((IntKind.u64.wrap x)/1099511627776) 255)/\wrap64 (bits .and .u64 ((IntKind.u64.wrap x)/1099511627776) 255)<=255:=by
 rw [zyO]
 have h:=Int.emod_nonneg x (show (18446744073709551616:Int)≠0 by decide)
 have h':=Int.emod_lt_of_pos x (show (0:Int)<18446744073709551616 by decide)
 rw [zL9 (by omega) (by omega)]
 rw [zjw (by omega) (by omega)];omega
theorem zCX {l:List Int} (hl:Bytes l) {s:Int} (r:Int) (h0:0<=s) (h1:s<=1000000000):
  ∃b r',zbu.f l s r=some (b,s+1,r')/\0<=b/\b<=255:=by
 have hb:=zLG hl s
 have e1:wrap64 (s+1)=s+1:=zjw (by omega) (by omega)
 have e2:wrap64 (rd l s)=rd l s:=zjw (by omega) (by omega)
 unfold zbu.f
 simp only [e1,e2,h0,if_true]
 split
 ·split
  ·exact ⟨_,_,rfl,hb.1,hb.2⟩
  ·exact ⟨_,_,rfl,zBy _⟩
 ·split
  ·exact ⟨_,_,rfl,by decide,by decide⟩
  ·exact ⟨_,_,rfl,zBy _⟩
theorem zqX {l:List Int} (hl:Bytes l) {s:Int} (r:Int) (h0:0<=s) (h1:s<=999999990) (n:Int) (hn:n<=1000000000):
  ∃x s' r',zV.f l s r n=some (x,s',r')/\0<=x/\(1<=n->x<n)/\s<=s'/\s'<=s+2:=by
 unfold zV.f
 by_cases h:n<=1
 ·rw [if_pos h];exact ⟨0,s,r,rfl,by decide,fun _=>by omega,by omega,by omega⟩
 rw [if_neg h]
 obtain ⟨b,r',e,b0,b1⟩:=zCX hl r h0 (by omega)
 rw [e]
 simp only [Option.bind_some]
 have hz:¬n=0:=by omega
 have tm:∀x:Int,0<=x->0<=Int.tmod x n/\Int.tmod x n<n:=fun x hx=>⟨Int.tmod_nonneg _ hx,by rw [Int.tmod_eq_emod_of_nonneg hx];exact Int.emod_lt_of_pos _ (by omega)⟩
 by_cases h2:n>200
 ·rw [if_pos h2]
  obtain ⟨c,r2,e2,c0,c1⟩:=zCX hl r' (s:=s+1) (by omega) (by omega)
  rw [e2]
  simp only [Option.bind_some,hz,if_false]
  have ew:wrap64 (wrap64 (b*256)+c)=b*256+c:=by rw [zjw (n:=b*256) (by omega) (by omega),zjw (by omega) (by omega)]
  rw [ew]
  exact ⟨_,_,_,rfl,(tm _ (by omega)).1,fun _=>(tm _ (by omega)).2,by omega,by omega⟩
 ·rw [if_neg h2]
  simp only [hz,if_false]
  exact ⟨_,_,_,rfl,(tm _ (by omega)).1,fun _=>(tm _ (by omega)).2,by omega,by omega⟩
theorem zr0 {l:List Int} (hl:Bytes l) {s:Int} (r:Int) (h0:0<=s) (h1:s<=999999990) (L:List Int) (hL:1<=L.length) (hL':L.length<=1000):
  ∃x s' r',zat.f l s r L=some (x,s',r')/\x∈L/\s<=s'/\s'<=s+2:=by
 unfold zat.f
 obtain ⟨x,s',r',e,x0,x1,s1,s2⟩:=zqX hl r h0 h1 (L.length:Int) (by omega)
 rw [e]
 have hx:=x1 (by omega)
 simp only [Option.bind_some,x0,hx,if_true]
 refine ⟨_,_,_,rfl,?_,s1,s2⟩
 unfold rd
 have hlt:x.toNat<L.length:=by omega
 rw [getD_lt hlt]
 exact List.getElem_mem hlt
theorem zGY {l:List Int} (hl:Bytes l) {s:Int} (r:Int) (h0:0<=s) (h1:s<=999999990) (n:Int) (hn:n<=1000000000):
  ∃b s' r',zaV.f l s r n=some (b,s',r')/\s<=s'/\s'<=s+2:=by
 unfold zaV.f
 obtain ⟨x,s',r',e,x0,x1,s1,s2⟩:=zqX hl r h0 h1 n hn
 rw [e]
 exact ⟨_,_,_,rfl,s1,s2⟩
theorem zGp (x:Int) {m:Int} (hm:0<=m): -m<=Int.tmod x (m+1)/\Int.tmod x (m+1)<=m:=by
 rcases Int.le_total 0 x with h|h
 ·have a:=Int.tmod_nonneg (m+1) h
  have b:=Int.emod_lt_of_pos x (show 0<m+1 by omega)
  rw [Int.tmod_eq_emod_of_nonneg h] at *
  omega
 ·have e:Int.tmod x (m+1)= - Int.tmod (-x) (m+1):=by rw [Int.neg_tmod,Int.neg_neg]
  have b:=Int.emod_lt_of_pos (-x) (show 0<m+1 by omega)
  have a:=Int.emod_nonneg (-x) (show m+1≠0 by omega)
  rw [e,Int.tmod_eq_emod_of_nonneg (by omega)]
  omega
theorem zNl {x m:Int} (hm:0<=m) (h: -m<=x/\x<=m) (y:Int): -m<=shr .i64 x y/\shr .i64 x y<=m:=by
 unfold shr
 have hp:(0:Int)<2^(min y.toNat IntKind.i64.bits):=Int.pow_pos (by decide)
 generalize (2:Int)^(min y.toNat IntKind.i64.bits)=p at *
 have h1:=Int.ediv_mul_le x (show p≠0 by omega)
 have h2:=Int.lt_ediv_add_one_mul_self x hp
 constructor
 ·rw [Int.le_ediv_iff_mul_le hp]
  have:=Int.mul_le_mul_of_nonneg_left (show (1:Int)<=p by omega) hm
  have e: -m*p= -(m*p):=Int.neg_mul m p
  omega
 ·rcases Int.lt_or_le x 0 with k|k
  ·have:=Int.ediv_neg_of_neg_of_pos k hp;omega
  ·have:=Int.ediv_le_self p k;omega
theorem zJu {l:List Int} (hl:Bytes l) {m:Int} (hm:1<=m) (hm':m<=4611686018427387904):∀(j:Nat),j<=7->∀(k:Nat) (x s r:Int),j<k->0<=s->s+(j:Int)<=999999000->
  ∃y s' r',zaY.l0 k m x (7-(j:Int)) l s r=some (y,s',r') /\ -m<=y/\y<=m/\s<=s'/\s'<=s+j+6:=by
 intro j
 induction j with
 | zero=>
  intro _ k x s r hk h0 h1
  obtain ⟨k,rfl⟩:∃k',k=k'+1:=⟨k-1,by omega⟩
  have n7:¬(7-((0:Nat):Int)<7):=by decide
  have em:wrap64 (m+1)=m+1:=zjw (by omega) (by omega)
  have ez:¬(m+1=0):=by omega
  unfold zaY.l0
  simp only [n7,if_false,em,ez]
  have tb:=zGp x (show 0<=m by omega)
  obtain ⟨a,s1,r1,e1,a0,a1,p1,q1⟩:=zqX hl r h0 (by omega) 5 (by decide)
  rw [e1];simp only [Option.bind_some]
  have ng:∀y:Int,-m<=y->y<=m-> -m<=wrap64 (-y)/\wrap64 (-y)<=m:=fun y y1 y2=>by rw [zjw (by omega) (by omega)];omega
  by_cases c0:a=0
  ·rw [if_pos c0]
   obtain ⟨b,s2,r2,e2,b0,b1,p2,q2⟩:=zqX hl r1 (s:=s1) (by omega) (by omega) 40 (by decide)
   rw [e2];simp only [Option.bind_some]
   have hw:0<=IntKind.u64.wrap b:=by rw [zyO];omega
   simp only [hw,if_true]
   obtain ⟨c,s3,r3,e3,p3,q3⟩:=zGY hl r2 (s:=s2) (by omega) (by omega) 2 (by decide)
   rw [e3];simp only [Option.bind_some]
   have sb:=zNl (show 0<=m by omega) tb (IntKind.u64.wrap b)
   split
   ·exact ⟨_,_,_,rfl,(ng _ sb.1 sb.2).1,(ng _ sb.1 sb.2).2,by omega,by omega⟩
   ·exact ⟨_,_,_,rfl,sb.1,sb.2,by omega,by omega⟩
  ·rw [if_neg c0]
   by_cases c1:a=1
   ·rw [if_pos c1]
    obtain ⟨b,s2,r2,e2,bm,p2,q2⟩:=zr0 hl r1 (s:=s1) (by omega) (by omega) [0,1,m,wrap64 (Int.tdiv m 2)] (by simp) (by simp)
    rw [e2];simp only [Option.bind_some]
    have hb: -m<=b/\b<=m:=by
     have ht:Int.tdiv m 2=m/2:=Int.tdiv_eq_ediv_of_nonneg (by omega)
     rw [ht,zjw (n:=m/2) (by omega) (by omega)] at bm
     simp only [List.mem_cons,List.not_mem_nil,or_false] at bm
     omega
    obtain ⟨c,s3,r3,e3,p3,q3⟩:=zGY hl r2 (s:=s2) (by omega) (by omega) 2 (by decide)
    rw [e3];simp only [Option.bind_some]
    split
    ·exact ⟨_,_,_,rfl,(ng _ hb.1 hb.2).1,(ng _ hb.1 hb.2).2,by omega,by omega⟩
    ·exact ⟨_,_,_,rfl,hb.1,hb.2,by omega,by omega⟩
   ·rw [if_neg c1]
    obtain ⟨c,s3,r3,e3,p3,q3⟩:=zGY hl r1 (s:=s1) (by omega) (by omega) 2 (by decide)
    rw [e3];simp only [Option.bind_some]
    split
    ·exact ⟨_,_,_,rfl,(ng _ tb.1 tb.2).1,(ng _ tb.1 tb.2).2,by omega,by omega⟩
    ·exact ⟨_,_,_,rfl,tb.1,tb.2,by omega,by omega⟩
 | succ j ih=>
  intro hj k x s r hk h0 h1
  obtain ⟨k,rfl⟩:∃k',k=k'+1:=⟨k-1,by omega⟩
  have n7:7-((j+1:Nat):Int)<7:=by omega
  unfold zaY.l0
  simp only [n7,if_true]
  obtain ⟨b,r',e,b0,b1⟩:=zCX hl r h0 (by omega)
  rw [e];simp only [Option.bind_some]
  have ew:wrap64 (7-((j+1:Nat):Int)+1)=7-(j:Int):=(zjw (n:=7-((j+1:Nat):Int)+1) (by omega) (by omega)).trans (by omega)
  rw [ew]
  obtain ⟨y,s',r2,e2,y1,y2,p,q⟩:=ih (by omega) k (bits .xor .i64 (wrap64 (x*256)) b) (s+1) r' (by omega) (by omega) (by omega)
  exact ⟨y,s',r2,e2,y1,y2,by omega,by omega⟩
theorem zBq {l:List Int} (hl:Bytes l) {m:Int} (hm:1<=m) (hm':m<=4611686018427387904) {k:Nat} (hk:8<=k) {s:Int} (r:Int) (h0:0<=s) (h1:s<=999998900):
  ∃y s' r',zaY.f k l s r m=some (y,s',r') /\ -m<=y/\y<=m/\s<=s'/\s'<=s+20:=by
 unfold zaY.f
 obtain ⟨y,s',r',e,y1,y2,p,q⟩:=zJu hl hm hm' 7 (by decide) k 0 s r (by omega) h0 (by omega)
 exact ⟨y,s',r',e,y1,y2,p,by omega⟩
theorem zLe {a:Int} (h: -9000000000<=a/\a<=9000000000):∃b,zfg.f a=some b /\ -1800000000<b/\b<=1800000000:=by
 have ht:Int.tmod a 3600000000=a-3600000000*Int.tdiv a 3600000000:=Int.tmod_def a 3600000000
 have tb:=zGp a (m:=3599999999) (by decide)
 rw [show (3599999999:Int)+1=3600000000 from rfl] at tb
 unfold zfg.f
 generalize Int.tmod a 3600000000=t at *
 by_cases c:t>1800000000
 ·rw [if_pos c]
  have e1:wrap64 (t-3600000000)=t-3600000000:=zjw (by omega) (by omega)
  rw [e1,zjw (n:=t-3600000000+3600000000) (by omega) (by omega)]
  by_cases c2:t-3600000000 <= -1800000000
  ·rw [if_pos c2];exact ⟨_,rfl,by omega,by omega⟩
  ·rw [if_neg c2];exact ⟨_,rfl,by omega,by omega⟩
 ·rw [if_neg c]
  by_cases c2:t <= -1800000000
  ·rw [if_pos c2,zjw (by omega) (by omega)];exact ⟨_,rfl,by omega,by omega⟩
  ·rw [if_neg c2];exact ⟨_,rfl,by omega,by omega⟩
def VP (a b:Int):Prop:= -900000000<=a/\a<=900000000 /\ -1800000000<b/\b<=1800000000
theorem zdO {l:List Int} (hl:Bytes l) {k:Nat} (hk:8<=k) {s:Int} (r:Int) (h0:0<=s) (h1:s<=999998000):
  ∃a b s' r',zaQ.f k l s r=some (a,b,s',r')/\VP a b/\s<=s'/\s'<=s+50:=by
 unfold zaQ.f
 obtain ⟨a,s1,r1,e1,a1,a2,p1,q1⟩:=zBq hl (m:=900000000) (by decide) (by decide) hk r h0 (by omega)
 rw [e1];simp only [Option.bind_some]
 obtain ⟨b,s2,r2,e2,b1,b2,p2,q2⟩:=zBq hl (m:=1800000000) (by decide) (by decide) hk r1 (s:=s1) (by omega) (by omega)
 rw [e2];simp only [Option.bind_some]
 obtain ⟨c,e3,c1,c2⟩:=zLe (a:=b) (by omega)
 rw [e3];simp only [Option.bind_some]
 obtain ⟨t,s3,r3,e4,t0,t1,p3,q3⟩:=zqX hl r2 (s:=s2) (by omega) (by omega) 10 (by decide)
 rw [e4];simp only [Option.bind_some]
 obtain ⟨k',rfl⟩:∃k',k=k'+1:=⟨k-1,by omega⟩
 simp only [zaQ.j0]
 by_cases z0:t=0
 ·rw [if_pos z0]
  obtain ⟨x,s4,r4,e5,xm,p4,q4⟩:=zr0 hl r3 (s:=s3) (by omega) (by omega) [900000000,-900000000,0,1] (by decide) (by decide)
  rw [e5];simp only [Option.bind_some]
  simp only [List.mem_cons,List.not_mem_nil,or_false] at xm
  exact ⟨_,_,_,_,rfl,⟨by omega,by omega,c1,c2⟩,by omega,by omega⟩
 ·rw [if_neg z0]
  by_cases z1:t=1
  ·rw [if_pos z1]
   obtain ⟨x,s4,r4,e5,xm,p4,q4⟩:=zr0 hl r3 (s:=s3) (by omega) (by omega) [1800000000,-1799999999,0,900000000,-900000000] (by decide) (by decide)
   rw [e5];simp only [Option.bind_some]
   simp only [List.mem_cons,List.not_mem_nil,or_false] at xm
   exact ⟨_,_,_,_,rfl,⟨a1,a2,by omega,by omega⟩,by omega,by omega⟩
  ·rw [if_neg z1]
   exact ⟨_,_,_,_,rfl,⟨a1,a2,c1,c2⟩,by omega,by omega⟩
theorem zHL (l:List Int):zfh.f l=some (l,0,0):=rfl
theorem zE1 {l:List Int} (h2:∀x∈l,(Lit.int .u8 x).wf=true):Bytes l:=⟨trivial,fun x hx=>by
 have:=h2 x hx
 have e1:IntKind.u8.min=0:=rfl
 have e2:IntKind.u8.max=255:=rfl
 simp only [Lit.wf,Bool.and_eq_true,decide_eq_true_eq,e1,e2] at this
 exact this⟩
def EP (a n d:Int):Prop:=(1000<=a/\a<=100000000000)/\(1<=d/\d<=1000000000000)/\0<=n/\n*100<=d
theorem zMB {l:List Int} (hl:Bytes l) {s:Int} (r:Int) (h0:0<=s) (h1:s<=999998000):∃a n d s' r',zga.f l s r=some (a,n,d,s',r')/\EP a n d:=by
 unfold zga.f
 obtain ⟨t,s1,r1,e1,t0,t1,p1,q1⟩:=zqX hl r h0 (by omega) 5 (by decide)
 rw [e1];simp only [Option.bind_some]
 by_cases z0:t=0
 ·rw [if_pos z0];exact ⟨_,_,_,_,_,rfl,by unfold EP;decide⟩
 rw [if_neg z0]
 by_cases z1:t=1
 ·rw [if_pos z1]
  obtain ⟨x,s2,r2,e2,xm,p2,q2⟩:=zr0 hl r1 (s:=s1) (by omega) (by omega) [6371000000,1000,1000000,100000000000] (by decide) (by decide)
  rw [e2];simp only [Option.bind_some]
  simp only [List.mem_cons,List.not_mem_nil,or_false] at xm
  exact ⟨_,_,_,_,_,rfl,by unfold EP;omega⟩
 rw [if_neg z1]
 by_cases z2:t=2
 ·rw [if_pos z2];exact ⟨_,_,_,_,_,rfl,by unfold EP;decide⟩
 rw [if_neg z2]
 obtain ⟨x,s2,r2,e2,x0,x1,p2,q2⟩:=zqX hl r1 (s:=s1) (by omega) (by omega) 9000000 (by decide)
 rw [e2];simp only [Option.bind_some]
 obtain ⟨y,s3,r3,e3,ym,p3,q3⟩:=zr0 hl r2 (s:=s2) (by omega) (by omega) [100,150,200,300,1000,100000] (by decide) (by decide)
 rw [e3];simp only [Option.bind_some]
 simp only [List.mem_cons,List.not_mem_nil,or_false] at ym
 have hx:=x1 (by decide)
 have w1:wrap64 (1+x)=1+x:=zjw (by omega) (by omega)
 have w2:wrap64 (1000*(1+x))=1000*(1+x):=zjw (by omega) (by omega)
 rw [w1,w2]
 exact ⟨_,_,_,_,_,rfl,by unfold EP;omega⟩
theorem zN5 {l:List Int} (hl:Bytes l):∃a n d,zgz.f l=some (a,n,d)/\EP a n d:=by
 unfold zgz.f
 rw [zHL];simp only [Option.bind_some]
 obtain ⟨a,n,d,s1,r1,e1,v1⟩:=zMB hl 0 (s:=0) (by decide) (by decide)
 rw [e1];simp only [Option.bind_some]
 exact ⟨_,_,_,rfl,v1⟩
theorem zNv {l:List Int} (hl:Bytes l) {k:Nat} (hk:8<=k):∃a b c d e f,zjM.f k l=some (a,b,c,d,e,f)/\VP a b/\VP c d/\VP e f:=by
 unfold zjM.f
 rw [zHL];simp only [Option.bind_some]
 obtain ⟨a,b,s1,r1,e1,v1,p1,q1⟩:=zdO hl hk 0 (s:=0) (by decide) (by decide)
 rw [e1];simp only [Option.bind_some]
 obtain ⟨c,d,s2,r2,e2,v2,p2,q2⟩:=zdO hl hk r1 (s:=s1) (by omega) (by omega)
 rw [e2];simp only [Option.bind_some]
 obtain ⟨e,f,s3,r3,e3,v3,p3,q3⟩:=zdO hl hk r2 (s:=s2) (by omega) (by omega)
 rw [e3];simp only [Option.bind_some]
 exact ⟨_,_,_,_,_,_,rfl,v1,v2,v3⟩
end Go.Proofs.YtaoakfodkoifoaaGreat.DFnOmega
