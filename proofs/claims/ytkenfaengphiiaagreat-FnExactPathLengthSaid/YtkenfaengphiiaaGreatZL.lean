/- The law FnExactPathLength gives true, whatever comes in; each argument reads behind the call as it read before. No conditions. (One of the texts of its proof, put together by a program of this session.) -/
import Derived.Test.YtkenfaengphiiaaGreatZPV
import Derived.Test.YtkenfaengphiiaaGreatRows
import Derived.Test.YtkenfaengphiiaaGreatZRJ
import Derived.WalkKit
import Derived.ProofKit
import Derived.OpenShut
import Derived.ChangeOld
import Derived.Below
import Derived.SizedLaws
import Derived.Deep.SlicePairs
import Derived.ChangeArms
set_option linter.unusedSectionVars false
set_option linter.unusedSimpArgs false
set_option linter.unusedVariables false
namespace Go.Proofs.YtkenfaengphiiaaGreat
open Go.ChangeShapes Go.WideShapes Go.ChangeAt Go.RowKit
theorem fnExactPathLength_own:ownKnob Tryz.prog.godebug=none:=by kernel_rfl
theorem zfj:laidOutB Tryz.prog=true:=by kernel_rfl
section
open Go
set_option maxRecDepth 100000
theorem fnExactPathLength_c0:(Rows.fnExactPathLengthRow.wf (OpenSpec.ofChange Rows.fnExactPathLengthSpec))=true:=by kernel_rfl
theorem fnExactPathLength_c3:(Tryz.f12.params.all (Tryz.pinned.checked.prog.readableRec ·))=true:=by kernel_rfl
theorem fnExactPathLength_c4:(namedTie Tryz.pinned.checked.prog Rows.fnExactPathLengthRow.named Rows.fnExactPathLengthSpec.vars)=true:=by kernel_rfl
theorem fnExactPathLength_c5:((Rows.fnExactPathLengthRow.stops == []))=true:=by kernel_rfl
theorem fnExactPathLength_c7:((Rows.fnExactPathLengthRow.knobs == []))=true:=by kernel_rfl
theorem fnExactPathLength_c9:((Rows.fnExactPathLengthRow.inPlace==Tryz.pinned.checked.prog.inPlace 12))=true:=by kernel_rfl
theorem fnExactPathLength_c10:((Rows.fnExactPathLengthRow.unfollowed==Tryz.pinned.checked.prog.unfollowed 12))=true:=by kernel_rfl
theorem fnExactPathLength_c11:((Rows.fnExactPathLengthRow.recurses==Tryz.pinned.checked.prog.recurses 12))=true:=by kernel_rfl
theorem fnExactPathLength_c12:((Rows.fnExactPathLengthRow.named==Tryz.pinned.checked.prog.varsNamed 12))=true:=by kernel_rfl
theorem fnExactPathLength_c13:((Rows.fnExactPathLengthRow.maps==(Tryz.f12.params.toList++Rows.fnExactPathLengthSpec.plain.varTypes Tryz.pinned.checked.prog).any (Tryz.pinned.checked.prog.mapsRec ·)))=true:=by kernel_rfl
theorem fnExactPathLength_c14:((Rows.fnExactPathLengthRow.ifaces==(Tryz.f12.params.toList++Rows.fnExactPathLengthSpec.plain.varTypes Tryz.pinned.checked.prog).any (Tryz.pinned.checked.prog.ifacesRec ·)))=true:=by kernel_rfl
theorem fnExactPathLength_c15:((Rows.fnExactPathLengthRow.mapsOut==Tryz.pinned.checked.prog.mapsAmong Tryz.f12.resultTypes.toList))=true:=by kernel_rfl
theorem fnExactPathLength_c16:((Rows.fnExactPathLengthRow.loops==(Tryz.f12.params.toList++Rows.fnExactPathLengthSpec.plain.varTypes Tryz.pinned.checked.prog).any (Tryz.pinned.checked.prog.loopsFrom ·)))=true:=by kernel_rfl
theorem fnExactPathLength_c17:((Rows.fnExactPathLengthRow.wideKeys==(Tryz.f12.params.toList++Rows.fnExactPathLengthSpec.plain.varTypes Tryz.pinned.checked.prog++Tryz.f12.resultTypes.toList).any (Tryz.pinned.checked.prog.wideKeysFrom ·)))=true:=by kernel_rfl
theorem fnExactPathLength_c18:(Rows.fnExactPathLengthSpec.vars.all (Tryz.pinned.checked.prog.varReadable ·))=true:=by kernel_rfl
theorem fnExactPathLength_c19:(Tryz.f12.resultTypes.all (fun t=>Tryz.pinned.checked.prog.readableRec t&&decide (t<Tryz.pinned.checked.prog.types.size)))=true:=by kernel_rfl
theorem fnExactPathLength_c20:((Rows.fnExactPathLengthRow.ifacesOut==Tryz.f12.resultTypes.toList.any (Tryz.pinned.checked.prog.ifacesRec ·)))=true:=by kernel_rfl
theorem fnExactPathLength_c21:((Rows.fnExactPathLengthRow.loopsOut==Tryz.f12.resultTypes.toList.any (Tryz.pinned.checked.prog.loopsFrom ·)))=true:=by kernel_rfl
theorem fnExactPathLength_c23:(Rows.fnExactPathLengthRow.shortTexts.isNone)=true:=by kernel_rfl
theorem fnExactPathLength_c28:((Rows.fnExactPathLengthRow.kinds==(if Rows.fnExactPathLengthRow.domain.isEmpty then [] else Tryz.f12.params.toList.map fun t=>match Tryz.pinned.checked.prog.underlying t with|some (.int k)=>some k|_=>none)))=true:=by kernel_rfl
theorem fnExactPathLength_c29:((Rows.fnExactPathLengthRow.pinned==Rows.fnExactPathLengthRow.pinnedBy))=true:=by kernel_rfl
theorem fnExactPathLength_c30:((Rows.fnExactPathLengthRow.veiled==(Tryz.f12.params.toList++Rows.fnExactPathLengthSpec.plain.varTypes Tryz.pinned.checked.prog++Tryz.f12.resultTypes.toList).any (Tryz.pinned.checked.prog.veiledRec ·)))=true:=by kernel_rfl
theorem fnExactPathLength_c31:(Rows.fnExactPathLengthRow.veiledFits Tryz.pinned.checked.prog Tryz.f12.params.toList (Tryz.f12.params.toList++Rows.fnExactPathLengthSpec.plain.varTypes Tryz.pinned.checked.prog++Tryz.f12.resultTypes.toList))=true:=by kernel_rfl
theorem fnExactPathLength_closed:joinedFacts Tryz.pinned.checked.prog 12 Tryz.f12 Rows.fnExactPathLengthSpec Rows.fnExactPathLengthRow=true:=by
 unfold joinedFacts
 exact (and_t (and_t (and_t (and_t (and_t (and_t (and_t (and_t (and_t (and_t (and_t (and_t (and_t (and_t (and_t (and_t (and_t (and_t (and_t (and_t (and_t (and_t (and_t (and_t (and_t (and_t (and_t (and_t (and_t (and_t (and_t fnExactPathLength_c0 j_1) j_2) fnExactPathLength_c3) fnExactPathLength_c4) fnExactPathLength_c5) j_6) fnExactPathLength_c7) j_8) fnExactPathLength_c9) fnExactPathLength_c10) fnExactPathLength_c11) fnExactPathLength_c12) fnExactPathLength_c13) fnExactPathLength_c14) fnExactPathLength_c15) fnExactPathLength_c16) fnExactPathLength_c17) fnExactPathLength_c18) fnExactPathLength_c19) fnExactPathLength_c20) fnExactPathLength_c21) j_22) fnExactPathLength_c23) j_24) j_25) j_26) j_27) fnExactPathLength_c28) fnExactPathLength_c29) fnExactPathLength_c30) fnExactPathLength_c31)
end
open PFnExactPathLength Go.Proofs.YtkenfaengphiiaaGreatW.PrintWords in
def nOf:Value->Int
 | .int _ n=>n
 | _=>0
theorem wf_in {n:Int} (h:(Lit.int .i64 n).wf=true):Ev.inB .i64 n=true:=by
 simp only [Lit.wf,Ev.inB] at h ⊢
 exact h
open PFnExactPathLength Go.Proofs.YtkenfaengphiiaaGreatW.PrintWords in
theorem row_pairs {H:Type} {enc:TypeId×Value->H} {W:World} {fuel:Nat} {cs:List Value} {x:DataW H×List MemPlace} (h:DataW.trod enc Tryz.prog W 0 (fun _=>true) true fuel 98 cs=some x):
  ∃(A:Option Addr) (c:Nat) (l:List S67),cs= [.slice A l.length c]/\l.length<=c/\l.length<=9223372036854775807/\Kd.C k67 W A l.length l/\l.all in67=true:=by
 obtain ⟨f0,f1,hs,z0,z1,t0,t1⟩:∃f0 f1,Tryz.prog.underlying 67=some (.struct #[f0,f1])/\f0.offset=0/\f1.offset=1/\f0.type=2/\f1.type=2:=⟨_,_,Tryz.underlying67,rfl,rfl,rfl,rfl⟩
 have hi:Tryz.prog.underlying 2=some (.int .i64):=by kernel_rfl
 have h2:Tryz.prog.cellsOf 2=1:=by kernel_rfl
 rcases Go.Deep.open_slice_pairs Tryz.underlying98 hs (by kernel_rfl) z0 z1 (by rw [t0];exact h2) (by rw [t1];exact h2) h with ⟨rfl,_⟩|⟨a,len,cap,m,n,V0,V1,D0,D1,P0,P1,rfl,_,hl,hm,hmm,_,hcell⟩
 ·exact ⟨none,0,[],rfl,Nat.le_refl _,by simp,⟨rfl,by simp,fun h=>absurd h (Nat.lt_irrefl 0)⟩,rfl⟩
 ·have hm':m=cap:=by rw [hmm];rfl
  subst hm'
  have hmx:m<=9223372036854775807:=hm
  have each:∀i,i<len->W.cell? (a.add (i*2))=some (.int .i64 (nOf (V0 i)))/\W.cell? (a.add (i*2+1))=some (.int .i64 (nOf (V1 i)))/\Ev.inB .i64 (nOf (V0 i))=true/\Ev.inB .i64 (nOf (V1 i))=true:=fun i hi'=>by
   obtain ⟨c0,c1,d0,d1⟩:=hcell i (by omega)
   rw [t0] at d0
   rw [t1] at d1
   obtain ⟨n0,e0,_,w0⟩:=DataW.trod_int hi d0
   obtain ⟨n1,e1,_,w1⟩:=DataW.trod_int hi d1
   have e0':V0 i= .int .i64 n0:=by simpa using e0
   have e1':V1 i= .int .i64 n1:=by simpa using e1
   rw [e0'] at c0
   rw [e1'] at c1
   rw [e0',e1']
   exact ⟨c0,c1,wf_in w0,wf_in w1⟩
  refine ⟨some a,m,(List.range len).map fun i=>⟨nOf (V0 i),nOf (V1 i)⟩,by simp,by simpa using hl,by simp;omega,⟨rfl,by simp;omega,fun _=>⟨a,rfl,fun j p hj=>?_⟩⟩,?_⟩
  ·have hj':j<len:=by
    rcases Nat.lt_or_ge j len with k|k
    ·exact k
    ·rw [List.getElem?_eq_none (by simpa using k)] at hj;cases hj
   rw [List.getElem?_map,List.getElem?_range hj'] at hj
   simp only [Option.map_some,Option.some.injEq] at hj
   subst hj
   obtain ⟨c0,c1,_,_⟩:=each j hj'
   refine ⟨[.int .i64 (nOf (V0 j)),.int .i64 (nOf (V1 j))],rfl,k67_mk W _,fun i u hu=>?_⟩
   match i,hu with
   | 0,hu=>cases hu;exact c0
   | 1,hu=>cases hu;exact c1
   | i+2,hu=>simp at hu
  ·rw [List.all_eq_true]
   intro z hz
   obtain ⟨i,hi1,rfl⟩:=List.mem_map.1 hz
   obtain ⟨_,_,q0,q1⟩:=each i (List.mem_range.1 hi1)
   simp only [in67,q0,q1,Bool.and_self]
open PFnExactPathLength in
set_option maxRecDepth 100000 in
theorem fnExactPathLength_lifted (os:Os) (started:os.Started) (H:Type) (enc:TypeId×Value->H):
  ReturnsInHanded {} Tryz.checked os 12 .any (Rows.fnExactPathLengthSpec.pre6 enc Tryz.prog Tryz.f12 Rows.fnExactPathLengthRow.domain false) (Rows.fnExactPathLengthSpec.post enc Tryz.prog Tryz.f12 false true false false):=by
 refine returnsInHanded_of_change (C:=Tryz.checked) fnExactPathLength_own started (by kernel_rfl) Tryz.func12
  (ChangeSpec.witness6 (enc:=enc) (C:=Tryz.checked) false ⟨#[],#[.agg #[.int .i64 0,.int .i64 0,.int .i64 0],.slice none 0 0,.int .i64 0],[]⟩ 8 (by kernel_rfl) (by kernel_rfl) (by kernel_rfl) (by kernel_rfl)) ?_
 intro W base args ds gs before hval0 hW hcnd _
 have hval:∀(j:Nat) t v,Tryz.f12.params[j]?=some t->args[j]?=some v->Value.okWide Tryz.prog W .any base t v:=hval0
 have hW':=hW
 obtain ⟨p,q,hA0,hV,rfl,hfz,hnd⟩:=hW
 have hA:DataW.TrodAll enc Tryz.prog W 0 (fun _=>true) true Tryz.f12.params.toList args.toList ds p:=hA0
 rw [Tryz.params12] at hA hval
 obtain ⟨v0,vs0,d0,ds0,p0,q0,hargs,rfl,rfl,h0,r0⟩:=trodAll_cons hA
 obtain ⟨v1,vs1,d1,ds1,p1,q1,rfl,rfl,rfl,h1,r1⟩:=trodAll_cons r0
 obtain ⟨v2,vs2,d2,ds2,p2,q2,rfl,rfl,rfl,h2,r2⟩:=trodAll_cons r1
 obtain ⟨rfl,rfl,rfl⟩:=trodAll_nil r2
 obtain rfl:args=#[v0,v1,v2]:=by cases args;simp_all
 obtain ⟨rfl,rfl⟩:=trodVars_none hV
 have k0:=h0;have k1:=h1;have k2:=h2
 have lt0:∀x∈p0,x.block<W.heap.size:=by obtain ⟨m,hm⟩:=k0;exact DataW.trod_lt m _ _ _ hm
 have lt1:∀x∈p1,x.block<W.heap.size:=by obtain ⟨m,hm⟩:=k1;exact DataW.trod_lt m _ _ _ hm
 have lt2:∀x∈p2,x.block<W.heap.size:=by obtain ⟨m,hm⟩:=k2;exact DataW.trod_lt m _ _ _ hm
 obtain ⟨⟨x0,y0⟩,_,_⟩:=Ev.open_arg (α:=Ev.Ell) (by kernel_rfl) (by kernel_rfl) (hval 0 66 v0 rfl rfl) h0
 obtain ⟨⟨x2,y2⟩,_,_⟩:=Ev.open_arg (α:=Ev.I64) (by kernel_rfl) (by kernel_rfl) (hval 2 2 v2 rfl rfl) h2
 obtain ⟨a1,len1,cap1,rfl⟩:=okWide_slice Tryz.underlying98 (hval 1 98 v1 rfl rfl)
 obtain ⟨A1,c1,l1,hc,hl1,hlm,hC,hin⟩:∃(A:Option Addr) (c:Nat) (l:List S67),Value.slice a1 len1 cap1= .slice A l.length c/\l.length<=c/\l.length<=9223372036854775807/\Go.Proofs.YtkenfaengphiiaaGreatW.PrintWords.Kd.C k67 W A l.length l/\l.all in67=true:=by
  obtain ⟨fuel,hf⟩:=h1
  obtain ⟨A,c,l,e,rest⟩:=row_pairs hf
  refine ⟨A,c,l,?_,rest⟩
  simpa [Value.cells] using e
 rw [hc]
 have e0:v0= .agg #[.int .i64 x0.a.val,.int .i64 x0.num.val,.int .i64 x0.den.val]:=by
  have:=y0 fun _=>none
  cases this with
  | agg t=>cases t with
   | cons u t=>cases t with
    | cons v t=>cases t with
     | cons w t=>cases t;cases u;cases v;cases w;rfl
 have e2:v2= .int .i64 x2.val:=by
  have:=y2 fun _=>none
  cases this
  rfl
 rw [e0,e2]
 have hp:=law_plain x0.a.val x0.num.val x0.den.val x2.val l1 x0.a.ok x0.num.ok x0.den.ok x2.ok hin hlm
 refine (zJ.calls (l1.length+3) _ _ _ A1 c1 l1 _ true W hC hl1 hp).mono fun e W' ⟨he,bel⟩=>?_
 subst he
 rw [hc] at k1
 rw [e0] at k0
 rw [e2] at k2
 rw [e0,e2,hc] at hW'
 exact ⟨_,rfl,_,_,_,[],_,[],hW',trodAll_mk1 (shut_bool Tryz.underlying4 _),(trodAll_cons_mk (Below.trod zfj (by kernel_rfl) (of_decide_eq_true (by kernel_rfl)) k0 bel lt0) (trodAll_cons_mk (Below.trod zfj (by kernel_rfl) (of_decide_eq_true (by kernel_rfl)) k1 bel lt1) (trodAll_cons_mk (Below.trod zfj (by kernel_rfl) (of_decide_eq_true (by kernel_rfl)) k2 bel lt2) trodAll_mk0))),rfl,bel.frame _,fun h=>by cases h⟩
theorem fnExactPathLength_holds:Rows.FnExactPathLengthSaid:=
 OpenClaim.holds_of_wide 12 Tryz.f12 rfl rfl rfl rfl rfl rfl rfl ⟨rfl,rfl,rfl,rfl,rfl⟩ rfl rfl rfl rfl rfl (by kernel_rfl) Tryz.func12 fnExactPathLength_closed
  (of_decide_eq_true (by kernel_rfl)) (by unfold Func.isWrapper;first|(rw [if_pos (by decide +kernel)];kernel_rfl)|(rw [if_neg (by decide +kernel)];exact ⟨rfl,rfl⟩))
  (fun os started H enc _=>fnExactPathLength_lifted os started H enc)
end Go.Proofs.YtkenfaengphiiaaGreat
