/- The law FnExactPathLength gives true, whatever comes in; each argument reads behind the call as it read before. No conditions. (One of the texts of its proof, put together by a program of this session.) -/
import Derived.Test.YtkenfaengphiiaaGreatZX2
set_option linter.unusedSectionVars false
set_option linter.unusedSimpArgs false
set_option linter.unusedVariables false
namespace Go.Proofs.YtkenfaengphiiaaGreat.PFnExactPathLength
open Go.RowKit Go.Proofs.YtkenfaengphiiaaGreatW.PrintWords Go.Proofs.YtkenfaengphiiaaGreatW.PrintLast Go.Proofs.YtkenfaengphiiaaGreatW.PrintMore
def in67 (x:S67):Bool:=Ev.inB .i64 x.f0&&Ev.inB .i64 x.f1
theorem wr_id {n:Int} (h: -9223372036854775808<=n) (k:n<=9223372036854775807):wrap64 n=n:=by unfold wrap64;omega
theorem rd67_in {l:List S67} (h:l.all in67=true) {i:Nat} (h1:i<l.length):in67 (rd_T67 l (i:Int))=true:=by
 unfold rd_T67
 rw [Int.toNat_natCast,List.getD_eq_getElem?_getD,List.getElem?_eq_getElem h1]
 exact List.all_eq_true.1 h _ (List.getElem_mem h1)
theorem toS_loop {l:List S67} (hl:l.length<=1048576) (hi:l.all in67=true):∀(n i k:Nat) (x3:List S24),x3.length=l.length->i+n=l.length->n<k->x3.all inS=true->
  ∃y,zV.l0 k l x3 (i:Int)=some y/\y.length=l.length/\y.all inS=true
 | n,i,0,x3,e,hn,hk,ha=>absurd hk (by omega)
 | 0,i,k+1,x3,e,hn,hk,ha=>by
  refine ⟨x3,?_,e,ha⟩
  unfold zV.l0
  rw [if_neg (by omega)]
 | n+1,i,k+1,x3,e,hn,hk,ha=>by
  have hr:=rd67_in hi (show i<l.length by omega)
  obtain ⟨y,h1,h2,h3⟩:=toS_loop hl hi n (i+1) k (x3.set i ⟨(rd_T67 l (i:Int)).f0,(rd_T67 l (i:Int)).f1⟩) (by rw [List.length_set];exact e) (by omega) (by omega) (by
   rw [List.all_eq_true]
   intro z hz
   rcases List.mem_or_eq_of_mem_set hz with h|h
   ·exact List.all_eq_true.1 ha z h
   ·subst h;exact hr)
  refine ⟨y,?_,h2,h3⟩
  unfold zV.l0
  rw [if_pos (by omega),if_pos (by omega)]
  simp only [laws_toPoint.f,Option.bind_some]
  rw [if_pos (by omega),wr_id (by omega) (by omega),Int.toNat_natCast,show (i:Int)+1=((i+1:Nat):Int) by omega]
  exact h1
theorem toS_ok {l:List S67} (hl:l.length<=1048576) (hi:l.all in67=true) {k:Nat} (hk:l.length<k):∃y,zV.f k l=some y/\y.length=l.length/\y.all inS=true:=by
 obtain ⟨y,h1,h2,h3⟩:=toS_loop hl hi l.length 0 k (List.replicate l.length z24) (by simp) (by omega) hk (by
  rw [List.all_eq_true]
  intro z hz
  rw [List.eq_of_mem_replicate hz]
  rfl)
 refine ⟨y,?_,h2,h3⟩
 unfold zV.f
 rw [if_pos (by omega),Int.toNat_natCast,if_pos (by omega)]
 exact h1
theorem eqS_loop (M:List S24) (hl:M.length<=1048576):∀(n i k:Nat),i+n=M.length->n<k->zat.l0 k M M (i:Int)=some true
 | n,i,0,hn,hk=>absurd hk (by omega)
 | 0,i,k+1,hn,hk=>by
  unfold zat.l0
  rw [if_neg (by omega)]
 | n+1,i,k+1,hn,hk=>by
  have:=eqS_loop M hl n (i+1) k (by omega) (by omega)
  unfold zat.l0
  rw [if_pos (by omega),if_pos (by omega),if_pos (by omega)]
  simp only [laws_eqPoint.f,if_true,Option.bind_some]
  rw [wr_id (by omega) (by omega),show (i:Int)+1=((i+1:Nat):Int) by omega]
  exact this
theorem path_some {a b c n:Int} {l:List S24} (h:l.length<=1048576) (hok:okL a b c n l=true):∃r,pathF a b c l n=some r:=by
 unfold pathF
 rw [dif_pos ⟨h,hok⟩]
 exact ⟨_,rfl⟩
theorem law_plain (a b c n:Int) (l:List S67) (ha:Ev.inB .i64 a=true) (hb:Ev.inB .i64 b=true) (hc:Ev.inB .i64 c=true) (hn:Ev.inB .i64 n=true) (hi:l.all in67=true) (hl:l.length<=9223372036854775807):
  zJ.f (l.length+3) a b c l n=some true:=by
 unfold zJ.f laws_szPointS.f
 rw [wr_id (by omega) (by omega)]
 by_cases hs:(1048576:Int)-(l.length:Int)<0
 ·rw [if_pos hs];rfl
 ·rw [if_neg hs]
  simp only [Option.bind_some]
  rw [if_neg hs]
  have hlen:l.length<=1048576:=by omega
  obtain ⟨M,m1,m2,m3⟩:=toS_ok hlen hi (k:=l.length+3) (by omega)
  obtain ⟨M',n1,n2,n3⟩:=toS_ok hlen hi (k:=l.length+2) (by omega)
  have e:=zV.mono l (l.length+2) M' n1
  rw [m1] at e
  cases e
  obtain ⟨⟨r1,r2,r3⟩,hr⟩:=path_some (a:=a) (b:=b) (c:=c) (n:=n) (l:=M) (by omega) (by simp only [okL,ha,hb,hc,hn,m3,Bool.and_self])
  have q:zat.f (l.length+2) M M=some true:=by
   unfold zat.f
   rw [if_pos rfl]
   exact eqS_loop M (by omega) M.length 0 (l.length+2) (by omega) (by omega)
  simp only [zba.f,Option.bind_some,m1,zc4.f,zbS.f,hr,zbq.f,if_true]
  rw [show l.length+3=(l.length+2)+1 from rfl,zJ.j0,if_neg (by simp),n1]
  simp only [Option.bind_some,q,if_true]
end Go.Proofs.YtkenfaengphiiaaGreat.PFnExactPathLength
