/- The law FnOmega gives true, whatever comes in; each argument reads behind the call as it read before. No conditions. (One of the texts of its proof, put together by a program of this session.) -/
import Derived.Test.YtaoakfodkoifoaaGreatZPB
import Derived.Test.YtaoakfodkoifoaaGreatZW2
import Derived.Laws.AppendOwn
import Derived.Great.Walk
import Derived.KernelRfl
set_option linter.unusedSectionVars false
set_option linter.unusedSimpArgs false
set_option linter.unusedVariables false
noncomputable section
namespace Go.Proofs.YtaoakfodkoifoaaGreat.Ev
open Go Go.RowKit
set_option maxRecDepth 100000
variable [Amb]
def sL:Code->Code
 | .seq a _=>a
 | c=>c
def sR:Code->Code
 | .seq _ b=>b
 | c=>c
def unb:Code->Code
 | .block _ a=>a
 | c=>c
def unl:Code->Code
 | .loop a=>a
 | c=>c
def thn:Code->Code
 | .cond _ a _=>a
 | c=>c
def opsL:Code->List Oper
 | .region _ ops _=>ops.toList
 | _=> []
def pk {α:Type} (l:List (Nat×α)):List Nat->Option (List (Nat×α))
 | []=>some []
 | t::ts=>match lk l t,pk l ts with
  | some v,some r=>some ((t,v)::r)
  | _,_=>none
theorem zLU {α:Type} {l:List (Nat×α)}:∀ {ts:List Nat} {r:List (Nat×α)},pk l ts=some r->∀t v,lk r t=some v->lk l t=some v
 | [],r,h,t,v,hv=>by simp [pk] at h;subst h;simp [lk] at hv
 | u::ts,r,h,t,v,hv=>by
  simp only [pk] at h
  split at h<;>try (cases h;done)
  rename_i x r' h1 h2
  cases h
  simp only [zbz] at hv
  by_cases hu:u=t
  ·subst hu;simp at hv;subst hv;exact h1
  ·rw [if_neg hu] at hv;exact zLU h2 t v hv
def pick (sl bl:List Nat) (s:St):Option St:=
 match pk s.tm sl,pk s.mm.blks bl with
 | some tm,some bs=>some ⟨tm,s.n,⟨bs,s.mm.nxt,s.mm.lo⟩⟩
 | _,_=>none
section
variable {P:Program}
theorem zJn {sl bl:List Nat} {s s':St} (h:pick sl bl s=some s') {w0:World} {ρ:Nat->Option Nat} {a:Act} {w:World} (hr:Rel w0 ρ s a w):Rel w0 ρ s' a w:=by
 unfold pick at h
 split at h<;>try (cases h;done)
 rename_i tm bs h1 h2
 cases h
 exact ⟨fun t v ht=>hr.tm t v (zLU h1 t v ht),hr.sz,hr.df,⟨fun b cs hb=>hr.mr.blk b cs (zLU h2 b cs hb),hr.mr.inj,hr.mr.fresh,hr.mr.dom,hr.mr.own,hr.mr.bel,hr.mr.lon,hr.mr.am⟩⟩
def Piece (t:Tb P) (c:Code) (sl bl:List Nat) (s:St):Option (X×St):=
 evC (A:=X×St) t.T (zoH t.T (fun _=>t.drw) t.Es t.Bs t.N t.d) t.drw (fun _=>none) t.N c s fun z s'=>match pick sl bl s' with
  | some s''=>some (z,s'')
  | none=>none
theorem piece {t:Tb P} {c:Code} {sl bl:List Nat} {s s1:St} {z:X} (h:Piece t c sl bl s=some (z,s1)) {w0:World} {ρ:Nat->Option Nat} {a:Act} {w:World} {Q:Exit->Act->World->Prop} (hr:Rel w0 ρ s a w)
  (hq:∀ρ' a' w',Ext ρ ρ'->Rel w0 ρ' s1 a' w'->Q z.out a' w'):c.wp P Q a w:=by
 refine zlo (zh7 (fun _ _=>t.zdO w0) t.d) (t.zdO w0) c (fun _ _ _ h=>by cases h) _ _ h ρ a w _ hr fun q s' ρ' a' w' ext hr' hk=>?_
 dsimp only at hk
 split at hk<;>try (cases hk;done)
 rename_i s'' hc
 simp only [Option.some.injEq,Prod.mk.injEq] at hk
 obtain ⟨rfl,rfl⟩:=hk
 exact hq ρ' a' w' ext (zJn hc hr')
theorem zsW (b:Bod P) {vs:List V} {xs:List Value} {w:World} (hle:vs.length<=b.fn.ntmps) {ρ:Nat->Option Nat} (hv:VRs ρ vs xs) (hp:V.pfs vs=true) (ha:Am w) {R:Value->World->Prop}
  (h:∀a,Rel w (fun _=>none) ⟨zipF 0 vs,b.fn.ntmps,⟨[],0,0⟩⟩ a w->b.code.wp P (bodyPost P b.fn fun e w'=>∃x,e= .returned x/\R x w') a w):Does P b.id xs.toArray w R:=by
 intro o a next Q hn
 rw [zfv,Oper.upon_enter]
 have hl:=hv.length
 have hv':VRs (fun _=>none) vs xs:=hv.pf hp
 refine Calls.mono (calls_of_wp b.hf b.hb (h _ ⟨fun t v ht=>?_,by simp;omega,rfl,MRel.empty ha⟩)) fun e w' he=>?_
 ·obtain ⟨x,_,h1,h2⟩:=zys vs xs 0 t v hv' ht
  refine ⟨x,?_,h2⟩
  have hlt:t<xs.length:=by
   rcases Nat.lt_or_ge t xs.length with h|h
   ·exact h
   ·simp [List.getElem?_eq_none h] at h1
  have h1':xs[t]?=some x:=by simpa using h1
  simp only [Array.getElem?_append,List.size_toArray,hlt,if_true,List.getElem?_toArray,h1']
 ·obtain ⟨x,rfl,h1⟩:=he
  exact hn x w' h1
end
def iv64 (k:I64):Value:= .int .i64 k.val
def OwnI (B:Nat) (e:TypeId) (w:World) (v:Value) (l:List I64):Prop:=
 (v= .slice none 0 0/\l= []) \/
 ∃g cap,∃m:List I64,v= .slice (some ⟨g,0,none⟩) l.length cap/\B<=g/\w.heap[g]?=some (.cells ((l++m).map iv64).toArray e (0,0))/\(l++m).length=cap/\cap<=maxLen
theorem OwnI.below {B:Nat} {e:TypeId} {w w':World} {v:Value} {l:List I64} (h:OwnI B e w v l) (hb:Below w.heap.size w w'):OwnI B e w' v l:=by
 rcases h with h|⟨g,cap,m,h1,h2,h3,h4⟩
 ·exact .inl h
 ·exact .inr ⟨g,cap,m,h1,h2,by rw [hb.block g (Array.getElem?_eq_some_iff.1 h3).1];exact h3,h4⟩
theorem zFf (n:Nat):Builtin.zeroCells #[.int .i64 0] n=((List.replicate n (⟨0,rfl⟩:I64)).map iv64).toArray:=by
 unfold Builtin.zeroCells
 apply Array.ext
 ·simp
 ·intro i h1 h2
  simp [iv64,Nat.mod_one]
theorem zF4 {P:Program} (B:Nat) (t ty e:TypeId) (i:TypeInfo) (z:Value) (ht:P.underlying t=some (.slice e)) (hi:P.info? e=some i) (hz:i.zero=some z)
  (hsz:i.size=1) (hby:i.bytes=8) (hzc:z.cells=#[.int .i64 0]) {w:World} {v:Value} {l:List I64} (h:OwnI B e w v l) (hB:B<=w.heap.size) (k:I64) (a:Addr) (c:Nat) (hk:w.cell? (a.add 0)=some (iv64 k)) (hl:l.length<=4000):
  ∃v' w',(Builtin.append_ #[t,t] ty #[v,.slice (some a) 1 c]).run P w= .ok v' w'/\OwnI B e w' v' (l ++ [k])/\w.grownBy w' v.ownBlock/\(v'.ownBlock=v.ownBlock\/v'.ownBlock=some w.heap.size):=by
 have hnews:∀j u,[iv64 k][j]?=some u->w.cell? (a.add j)=some u:=fun j u hj=>by
  cases j with
  | zero=>simp at hj;subst hj;exact hk
  | succ j=>simp at hj
 have grown:∀(old:Nat),old<l.length+1->∀row,OwnI B e (w.drew.alloc (.cells ((l.map iv64).toArray ++ [iv64 k].toArray++Builtin.zeroCells z.cells (grownCap w (l.length+1) old e-(l.length+1))) e)) (.slice (some ⟨w.heap.size,0,none⟩) (l.length+1) (grownCap w (l.length+1) old e)) (l ++ [k]) /\
   w.grownBy (w.drew.alloc (.cells ((l.map iv64).toArray ++ [iv64 k].toArray++Builtin.zeroCells z.cells (grownCap w (l.length+1) old e-(l.length+1))) e)) row:=by
  intro old ho row
  have hge:=grownCap_ge w (l.length+1) old e
  have hcm:grownCap w (l.length+1) old e<=maxLen:=grownCap_le_maxLen w (l.length+1) old e (by simp only [maxLen];omega)
  refine ⟨.inr ⟨w.heap.size,_,List.replicate (grownCap w (l.length+1) old e-(l.length+1)) ⟨0,rfl⟩,by simp,hB,?_,by simp;omega,hcm⟩,⟨rfl,rfl,rfl,by simp,fun k hk _=>heap_alloc_old w.drew _ hk⟩⟩
  rw [hzc,zFf]
  refine (heap_alloc_new w.drew _).trans ?_
  simp
 rcases h with ⟨rfl,rfl⟩|⟨g,cap,m,rfl,h2,h3,h4,h5⟩
 ·have hr:=run_append_nil (P:=P) w t ty e i z ht hi hz a 1 c [iv64 k] (by simp [hsz]) hnews (by decide) (by decide) (by rw [hby];decide)
  have hgr:=grown 0 (by simp) (Value.ownBlock (.slice none 0 0))
  simp only [List.map_nil,List.length_nil,Nat.zero_add] at hgr
  have e0:(#[]:Array Value) ++ [iv64 k].toArray= [iv64 k].toArray:=by simp
  exact ⟨_,_,hr,by rw [e0] at hgr;exact hgr.1,by rw [e0] at hgr;exact hgr.2,.inr rfl⟩
 ·have hlm:(l++m).length=l.length+m.length:=by simp
  by_cases hroom:l.length+1<=cap
  ·have hr:=run_append_room (P:=P) w t ty e i ht hi g l.length cap _ h3 a 1 c [iv64 k] (by simp [hsz]) hnews (by simp [iv64,Value.oneCell']) hroom (by simp [hsz];omega)
   refine ⟨_,_,hr,.inr ⟨g,cap,m.drop 1,by simp,h2,?_,by simp;omega,h5⟩,⟨rfl,rfl,rfl,by simp,fun k _ hk=>setRow_other w g k _ (fun e=>hk (by simp [Value.ownBlock,e]))⟩,.inl rfl⟩
   refine (setRow_heap w g _ _ e _ h3).trans ?_
   congr 3
   simp [hsz,List.take_append,List.drop_append,List.map_drop]
  ·have holds:∀j u,(l.map iv64)[j]?=some u->w.cell? ((⟨g,0,none⟩:Addr).add j)=some u:=fun j u hj=>by
    rw [addr_add,cell_of_row w g _ _ e _ h3]
    simp only [Nat.zero_add,List.getElem?_toArray,List.map_append]
    rw [List.getElem?_append_left (by have:=(List.getElem?_eq_some_iff.1 hj).1;exact this)]
    exact hj
   have hr:=run_append_grow (P:=P) w t ty e i z ht hi hz ⟨g,0,none⟩ l.length cap (l.map iv64) (by simp [hsz]) holds a 1 c [iv64 k] (by simp [hsz]) hnews (by omega) (by omega) (growslice_fits (by omega) (by rw [hby];omega))
   have hgr:=grown cap (by omega) (Value.ownBlock (.slice (some ⟨g,0,none⟩) l.length cap))
   exact ⟨_,_,hr,hgr.1,hgr.2,.inr rfl⟩
end Go.Proofs.YtaoakfodkoifoaaGreat.Ev
/-
 The walk of turnsIn.
-/
namespace Go.Proofs.YtaoakfodkoifoaaGreat.Ev
open Go Go.RowKit
set_option maxRecDepth 100000
variable [Amb]
def TbT:Tb Tryz.prog:= {T:= [Y2,Y32],mix:=mix,Es:= [zo6,zem,zws],N:=1}
def BT:Bod Tryz.prog:=⟨247,Tryz.f247,Tryz.f247.body.getD .skip,Tryz.func247,by kernel_rfl,by kernel_rfl,zar.no _ _⟩
def KT0:Code:=sL BT.code
def KT1:Code:=sL (sR BT.code)
def KT2:Code:=sL (sL (sR (sR BT.code)))
def KTL:Code:=unl (unb (sR (sL (sR (sR BT.code)))))
def KT7:Code:=sR (sR (sR BT.code))
theorem zRa:BT.code=KT0.seq (KT1.seq ((KT2.seq (.block 0 (.loop KTL))).seq KT7)):=by kernel_rfl
def KTA:Code:=sL KTL
def KTB:Code:=sL (unb (sL (sR KTL)))
def KT6:Code:=thn (sR (unb (sL (sR KTL))))
def KTC:Code:=sR (sR KTL)
theorem zQm:KTL=KTA.seq ((Code.block 1 (KTB.seq (.cond (.tmp 20) KT6 .skip))).seq KTC):=by kernel_rfl
def o6 (i:Nat):Oper:=(opsL KT6).getD i default
theorem zQn:KT6= .region 6 [o6 0,o6 1,o6 2,o6 3,o6 4].toArray false:=by kernel_rfl
def pair (x:Iv):List (Nat×List V):= [(0,[.i64 x.lo,.i64 x.hi])]
def sT (x:Iv) (k:I64) (LV:V):St:=⟨[(1,.ptr 0 0),(4,.i64 k),(3,LV)],26,⟨pair x,2,2⟩⟩
def k0 (x:Iv):I64:= .w .i64 ((zcq x.lo).val-1)
def k1 (x:Iv):I64:= .w .i64 ((zcq x.hi).val+1)
theorem p_0 (x:Iv):Piece TbT KT0 [1] [0] ⟨zipF 0 [enc x],26,⟨[],0,0⟩⟩=some (.norm,⟨[(1,.ptr 0 0)],26,⟨pair x,1,0⟩⟩):=by kernel_rfl
theorem p_1 (x:Iv):Piece TbT KT1 [1,3] [0] ⟨[(1,.ptr 0 0)],26,⟨pair x,1,0⟩⟩=some (.norm,⟨[(1,.ptr 0 0),(3,.nils)],26,⟨pair x,1,0⟩⟩):=by kernel_rfl
theorem p_2 (x:Iv):Piece TbT KT2 [1,4,3] [0] ⟨[(1,.ptr 0 0),(3,.nils)],26,⟨pair x,1,0⟩⟩=some (.norm,⟨[(1,.ptr 0 0),(4,.i64 (k0 x)),(3,.nils)],26,⟨pair x,1,0⟩⟩):=by kernel_rfl
theorem p_A (x:Iv) (k:I64) (LV:V):Piece TbT KTA [1,4,3] [0] (sT x k LV)=bif decide (k.val<=(k1 x).val) then some (.norm,sT x k LV) else some (.exit 0,sT x k LV):=by kernel_rfl
theorem p_B (x:Iv) (k:I64) (LV:V):Piece TbT KTB [20,1,4,3] [0] (sT x k LV)=some (.norm,⟨[(20,.bool (zdZ (za4 k) x)),(1,.ptr 0 0),(4,.i64 k),(3,LV)],26,⟨pair x,2,2⟩⟩):=by kernel_rfl
theorem p_C (x:Iv) (k:I64) (LV:V):Piece TbT KTC [1,4,3] [0] (sT x k LV)=some (.norm,sT x (.w .i64 (k.val+1)) LV):=by kernel_rfl
theorem p_7 (x:Iv) (k:I64) (LV:V):Piece TbT KT7 [2] [0] (sT x k LV)=some (.ret,⟨[(2,LV)],26,⟨pair x,2,2⟩⟩):=by kernel_rfl
def ziG (x:Iv):Nat->I64->List I64
 | 0,_=> []
 | n+1,k=>bif decide (k.val<=(k1 x).val) then (bif zdZ (za4 k) x then k::ziG x n (.w .i64 (k.val+1)) else ziG x n (.w .i64 (k.val+1))) else []
structure TInv (x:Iv) (wc:World) (r0:Nat) (ty:TypeId) (k:I64) (l:List I64) (v:Value) (a:Act) (w:World):Prop where
 sz:a.tmps.size=26
 df:a.defers= []
 t1:a.tmps[1]?=some (.pointer (some ⟨r0,0,none⟩))
 t4:a.tmps[4]?=some (iv64 k)
 t3:a.tmps[3]?=some v
 row:w.heap[r0]?=some (.cells #[iv64 x.lo,iv64 x.hi] ty (0,0))
 own:OwnI wc.heap.size 2 w v l
 ne:v.ownBlock≠some r0
 bel:Below wc.heap.size wc w
 r0b:wc.heap.size<=r0
 am:Am wc
section
variable {x:Iv} {wc:World} {r0:Nat} {ty:TypeId} {k:I64} {l:List I64} {v:Value} {a:Act} {w:World}
theorem TInv.enter (h:TInv x wc r0 ty k l v a w):∃LV ρ,Rel w ρ (sT x k LV) a w/\ρ 0=some r0/\(∀ρ' y,Ext ρ ρ'->VR ρ' LV y->y=v):=by
 have hr0:r0<w.heap.size:=(Array.getElem?_eq_some_iff.1 h.row).1
 have blk:∀ρ:Nat->Option Nat,ρ 0=some r0->∀b cs,lk (pair x) b=some cs->∃r xs t,ρ b=some r/\w.heap[r]?=some (.cells xs.toArray t (0,0))/\VRs ρ cs xs:=fun ρ h0 b cs hb=>by
  simp only [pair,zbz] at hb
  by_cases hb0:0=b
  ·subst hb0
   simp at hb;subst hb
   exact ⟨r0,[iv64 x.lo,iv64 x.hi],ty,h0,h.row,.cons (.i64 _) (.cons (.i64 _) .nil)⟩
  ·rw [if_neg hb0] at hb;simp [lk] at hb
 have tmv:∀(ρ:Nat->Option Nat) (LV:V),ρ 0=some r0->VR ρ LV v->∀t u,lk (sT x k LV).tm t=some u->∃y,a.tmps[t]?=some y/\VR ρ u y:=fun ρ LV h0 hL t u hu=>by
  simp only [sT,zbz] at hu
  by_cases h1:1=t
  ·subst h1;simp at hu;subst hu;exact ⟨_,h.t1,.ptr h0⟩
  ·rw [if_neg h1] at hu
   by_cases h4:4=t
   ·subst h4;simp at hu;subst hu;exact ⟨_,h.t4,.i64 _⟩
   ·rw [if_neg h4] at hu
    by_cases h3:3=t
    ·subst h3;simp at hu;subst hu;exact ⟨_,h.t3,hL⟩
    ·rw [if_neg h3] at hu;simp [lk] at hu
 rcases h.own with ⟨rfl,rfl⟩|⟨g,cap,m,rfl,h2,h3,h4⟩
 ·have h0:(fun b=>if b=0 then some r0 else none:Nat->Option Nat) 0=some r0:=rfl
  refine ⟨.nils,fun b=>if b=0 then some r0 else none,⟨tmv _ _ h0 .nils,h.sz,h.df,⟨blk _ h0,?_,?_,?_,?_,Below.refl _ _,Nat.le_refl _,fun w' hw=>h.am w' (h.bel.trans (hw.mono h.bel.size))⟩⟩,h0,fun ρ' y _ hy=>by cases hy;rfl⟩
  ·intro b b' r h1 h2;split at h1<;>split at h2<;>simp_all
  ·intro b hb;simp only [sT] at hb;rw [if_neg (by omega)]
  ·intro b r hr;split at hr<;>simp_all
  ·intro b r hb hr;simp only [sT] at hb;rw [if_neg (by omega)] at hr;cases hr
 ·have hg:g<w.heap.size:=(Array.getElem?_eq_some_iff.1 h3).1
  have hne:g≠r0:=fun e=>h.ne (by simp [Value.ownBlock,e])
  have h0:(fun b=>if b=0 then some r0 else if b=1 then some g else none:Nat->Option Nat) 0=some r0:=rfl
  have hh1:(fun b=>if b=0 then some r0 else if b=1 then some g else none:Nat->Option Nat) 1=some g:=rfl
  refine ⟨.slc 1 0 l.length cap,fun b=>if b=0 then some r0 else if b=1 then some g else none,⟨tmv _ _ h0 (.slc hh1),h.sz,h.df,⟨blk _ h0,?_,?_,?_,?_,Below.refl _ _,Nat.le_refl _,fun w' hw=>h.am w' (h.bel.trans (hw.mono h.bel.size))⟩⟩,h0,fun ρ' y he hy=>?_⟩
  ·intro b b' r h1 h2
   split at h1<;>split at h2<;>(try split at h1)<;>(try split at h2)<;>simp_all
  ·intro b hb;simp only [sT] at hb;rw [if_neg (by omega),if_neg (by omega)]
  ·intro b r hr
   split at hr
   ·simp_all
   ·split at hr<;>simp_all
  ·intro b r hb hr;simp only [sT] at hb;rw [if_neg (by omega),if_neg (by omega)] at hr;cases hr
  ·have:=he 1 g hh1
   cases hy
   rename_i r hr
   rw [this] at hr;cases hr;rfl
theorem TInv.leave (h:TInv x wc r0 ty k l v a w) {LV:V} {ρ':Nat->Option Nat} (hL:∀y,VR ρ' LV y->y=v) (h0:ρ' 0=some r0) {k':I64} {tm:List (Nat×V)} {m:Mem} {a':Act} {w':World}
  (hr:Rel w ρ' ⟨tm,26,m⟩ a' w') (h1:lk tm 1=some (.ptr 0 0)) (h4:lk tm 4=some (.i64 k')) (h3:lk tm 3=some LV):TInv x wc r0 ty k' l v a' w':=by
 have hb:=hr.mr.bel
 obtain ⟨y1,a1,b1⟩:=hr.tm 1 _ h1
 obtain ⟨y4,a4,b4⟩:=hr.tm 4 _ h4
 obtain ⟨y3,a3,b3⟩:=hr.tm 3 _ h3
 have:=hL _ b3
 subst this
 have hr0:r0<w.heap.size:=(Array.getElem?_eq_some_iff.1 h.row).1
 refine ⟨hr.sz,hr.df,?_,?_,a3,by rw [hb.block r0 hr0];exact h.row,h.own.below hb,h.ne,h.bel.trans (hb.mono h.bel.size),h.r0b,h.am⟩
 ·cases b1
  rename_i r hr'
  rw [h0] at hr';cases hr';exact a1
 ·cases b4;exact a4
end
theorem zsq:Tryz.prog.underlying 96=some (.slice 2):=by kernel_rfl
theorem zIW:(Tryz.prog.info? 2).map (·.bytes)=some 8:=by kernel_rfl
theorem zIV:((Tryz.prog.info? 2).bind (·.zero)).map (·.cells)=some #[.int .i64 0]:=by kernel_rfl
theorem zLg:(Tryz.prog.info? 2).map (·.size)=some 1:=by kernel_rfl
theorem zGj:∃i z,Tryz.prog.info? 2=some i/\i.zero=some z/\i.size=1/\i.bytes=8/\z.cells=#[.int .i64 0]:=by
 have h1:=zIW
 have h2:=zIV
 have h3:=zLg
 cases hi:Tryz.prog.info? 2 with
 | none=>rw [hi] at h1;simp at h1
 | some i=>
  rw [hi] at h1 h2 h3
  simp at h1 h2 h3
  obtain ⟨z,h4,h5⟩:=h2
  exact ⟨i,z,rfl,h4,h3,h1,h5⟩
theorem o6_0:(o6 0).guard=none/\(o6 0).op= .move (.tmp 3)/\(o6 0).dst=some 21:=⟨by kernel_rfl,by kernel_rfl,by kernel_rfl⟩
theorem o6_1:(o6 1).guard=none/\(o6 1).op= .move (.tmp 4)/\(o6 1).dst=some 22:=⟨by kernel_rfl,by kernel_rfl,by kernel_rfl⟩
theorem o6_2:(o6 2).guard=none/\(o6 2).op= .buildSlice 96 1 #[(0,.tmp 22)]/\(o6 2).dst=some 23:=⟨by kernel_rfl,by kernel_rfl,by kernel_rfl⟩
theorem o6_3:(o6 3).guard=none/\(o6 3).op= .call {callee:= .builtin .append,args:=#[.tmp 21,.tmp 23],argTypes:=#[96,96]}/\(o6 3).dst=some 24:=⟨by kernel_rfl,by kernel_rfl,by kernel_rfl⟩
theorem o6_4:(o6 4).guard=none/\(o6 4).op= .assign (.tmp 24)/\(o6 4).dst=some 3:=⟨by kernel_rfl,by kernel_rfl,by kernel_rfl⟩
theorem za8 {a:Act} {d t:Nat} {x:Value} (h:d<a.tmps.size):(a.put (some d) x).tmps[t]?=if t=d then some x else a.tmps[t]?:=by
 simp only [Act.put]
 by_cases ht:t=d
 ·subst ht;simp [h]
 ·rw [if_neg ht,Array.getElem?_setIfInBounds_ne (fun e=>ht e.symm)]
theorem zfi {a:Act} {d:Nat} {x:Value}:(a.put (some d) x).tmps.size=a.tmps.size:=by simp [Act.put]
theorem zlm {a:Act} {d:Nat} {x:Value}:(a.put (some d) x).defers=a.defers:=rfl
theorem zdF {a:Act} {t:Nat} {x:Value} (h:a.tmps[t]?=some x):a.eval (.tmp t)=x:=by simp [Act.eval,h]
theorem wp_6 {x:Iv} {wc:World} {r0:Nat} {ty:TypeId} {k:I64} {l:List I64} {v:Value} {a:Act} {w:World} {Q:Exit->Act->World->Prop} (h:TInv x wc r0 ty k l v a w) (hl:l.length<=4000)
  (hq:∀v' a' w',TInv x wc r0 ty k (l ++ [k]) v' a' w'->Q .normal a' w'):KT6.wp Tryz.prog Q a w:=by
 rw [zQn]
 refine wp_region_lit ?_
 have hsz:=h.sz
 refine Go.Great.wpList_runTo o6_0.1 (some 21) o6_0.2.2 v w (by simp only [execOp,o6_0.2.1,Sem.run_pure,zdF h.t3]) ?_
 have s1:(a.put (some 21) v).tmps.size=26:=by rw [zfi,hsz]
 have e4:(a.put (some 21) v).tmps[4]?=some (iv64 k):=by rw [za8 (by omega),if_neg (by decide)];exact h.t4
 refine Go.Great.wpList_runTo o6_1.1 (some 22) o6_1.2.2 (iv64 k) w (by simp only [execOp,o6_1.2.1,Sem.run_pure,zdF e4]) ?_
 have s2:((a.put (some 21) v).put (some 22) (iv64 k)).tmps.size=26:=by rw [zfi,s1]
 have e22:((a.put (some 21) v).put (some 22) (iv64 k)).tmps[22]?=some (iv64 k):=by rw [za8 (by omega),if_pos rfl]
 obtain ⟨i,z,hi,hz,hs,hby,hzc⟩:=zGj
 refine Go.Great.wpList_runTo o6_2.1 (some 23) o6_2.2.2 (.slice (some ⟨w.heap.size,0,none⟩) 1 1) (w.alloc (.cells #[iv64 k] 2 (0,0))) ?_ ?_
 ·have hb:(Instr.buildSlice 96 1 #[(0,iv64 k)]).run Tryz.prog w= .ok (.slice (some ⟨w.heap.size,0,none⟩) 1 1) (w.alloc (.cells #[iv64 k] 2 (0,0))):=by
   refine run_buildSlice w 96 2 1 #[(0,iv64 k)] #[iv64 k] i z zsq hi hz (by rw [hs];decide) (by rw [hs];decide) ?_
   rw [hs,hzc]
   kernel_rfl
  have hp:(#[(0,Operand.tmp 22)].map fun (p:Nat×Operand)=>(p.1,((a.put (some 21) v).put (some 22) (iv64 k)).eval p.2))=#[(0,iv64 k)]:=by
   simp only [List.map_toArray,List.map_cons,List.map_nil,zdF e22]
  simp only [execOp,o6_2.2.1,Sem.run_bind]
  rw [hp,hb]
  simp only [Result.andThen_ok,Sem.run_pure]
 generalize hw1:w.alloc (.cells #[iv64 k] 2 (0,0))=w1
 have hw1s:w1.heap.size=w.heap.size+1:=by rw [<- hw1];simp
 have hw1b:Below w.heap.size w w1:=by rw [<- hw1];exact (Below.refl _ _).alloc (Nat.le_refl _) _
 have hcell:w1.cell? ((⟨w.heap.size,0,none⟩:Addr).add 0)=some (iv64 k):=by
  rw [addr_add,cell_of_row w1 _ _ #[iv64 k] 2 _ (by rw [<- hw1];exact heap_alloc_new w _)];rfl
 have hown1:=h.own.below hw1b
 have hB:wc.heap.size<=w1.heap.size:=by rw [hw1s];have:=h.bel.size;omega
 obtain ⟨v',w2,hrun,hown2,hgb,hblk⟩:=zF4 (P:=Tryz.prog) wc.heap.size 96 (o6 3).type 2 i z zsq hi hz hs hby hzc hown1 hB k ⟨w.heap.size,0,none⟩ 1 hcell hl
 generalize ha2:(a.put (some 21) v).put (some 22) (iv64 k)=a2 at *
 have s3:(a2.put (some 23) (.slice (some ⟨w.heap.size,0,none⟩) 1 1)).tmps.size=26:=by rw [zfi,s2]
 have e21:(a2.put (some 23) (.slice (some ⟨w.heap.size,0,none⟩) 1 1)).tmps[21]?=some v:=by
  rw [za8 (by omega),if_neg (by decide),<- ha2,za8 (by omega),if_neg (by decide),za8 (by omega),if_pos rfl]
 have e23:(a2.put (some 23) (.slice (some ⟨w.heap.size,0,none⟩) 1 1)).tmps[23]?=some (.slice (some ⟨w.heap.size,0,none⟩) 1 1):=by rw [za8 (by omega),if_pos rfl]
 generalize ha3:a2.put (some 23) (.slice (some ⟨w.heap.size,0,none⟩) 1 1)=a3 at *
 refine Go.Great.wpList_runTo o6_3.1 (some 24) o6_3.2.2 v' w2 ?_ ?_
 ·simp only [execOp,o6_3.2.1,resolve,invoke,builtin,Sem.run_bind,Sem.run_pure,Result.andThen_ok,List.map_toArray,List.map_cons,List.map_nil,zdF e21,zdF e23,hrun]
 have s4:(a3.put (some 24) v').tmps.size=26:=by rw [zfi,s3]
 have e24:(a3.put (some 24) v').tmps[24]?=some v':=by rw [za8 (by omega),if_pos rfl]
 refine Go.Great.wpList_runTo o6_4.1 (some 3) o6_4.2.2 v' w2 (by simp only [execOp,o6_4.2.1,Sem.run_pure,zdF e24]) ?_
 refine wpList_nil (hq v' _ w2 ⟨by rw [zfi,s4],?_,?_,?_,?_,?_,hown2,?_,?_,h.r0b,h.am⟩)
 ·rw [zlm,zlm,<- ha3,zlm,<- ha2,zlm,zlm];exact h.df
 ·rw [za8 (by omega),if_neg (by decide),za8 (by omega),if_neg (by decide),<- ha3,za8 (by omega),if_neg (by decide),<- ha2,za8 (by omega),if_neg (by decide),za8 (by omega),if_neg (by decide)];exact h.t1
 ·rw [za8 (by omega),if_neg (by decide),za8 (by omega),if_neg (by decide),<- ha3,za8 (by omega),if_neg (by decide),<- ha2,za8 (by omega),if_neg (by decide),za8 (by omega),if_neg (by decide)];exact h.t4
 ·rw [za8 (by omega),if_pos rfl]
 ·have hr0:r0<w.heap.size:=(Array.getElem?_eq_some_iff.1 h.row).1
  rw [hgb.block r0 (by omega) (fun e=>h.ne e.symm),hw1b.block r0 hr0];exact h.row
 ·have hr0:r0<w.heap.size:=(Array.getElem?_eq_some_iff.1 h.row).1
  rcases hblk with e|e
  ·rw [e];exact h.ne
  ·rw [e];intro e2;cases e2;omega
 ·refine ⟨hgb.os.trans (hw1b.os.trans h.bel.os),hgb.tape.trans (hw1b.tape.trans h.bel.tape),hgb.output.trans (hw1b.output.trans h.bel.output),by have:=hgb.size;omega,fun j hj=>?_⟩
  have hjs:=h.bel.size
  rw [hgb.block j (by omega) ?_,hw1b.block j (by omega)]
  ·exact h.bel.block j hj
  ·intro e
   rcases h.own with ⟨rfl,_⟩|⟨g,cap,m,rfl,h2,_⟩
   ·simp [Value.ownBlock] at e
   ·simp [Value.ownBlock] at e;omega
end Go.Proofs.YtaoakfodkoifoaaGreat.Ev
/-
 The walk of turnsIn: the loop,and what it answers.
-/
namespace Go.Proofs.YtaoakfodkoifoaaGreat.Ev
open Go Go.RowKit
set_option maxRecDepth 100000
variable [Amb]
theorem zCr {x:Iv} {wc:World} {r0:Nat} {ty:TypeId} (hk1:(k1 x).val<=4000):∀(n:Nat) (k:I64) (l:List I64) (v:Value) (a:Act) (w:World) (Q:Exit->Act->World->Prop),TInv x wc r0 ty k l v a w->
  1<=n->(k1 x).val-k.val+1<n->l.length+n<=3000-> -5000<=k.val->(∀k' v' a' w',TInv x wc r0 ty k' (l++ziG x n k) v' a' w'->Q (.exit 0) a' w')->Code.rounds Tryz.prog KTL Q n a w:=by
 intro n
 induction n with
 | zero=>intro k l v a w Q _ h1;omega
 | succ n ih=>
  intro k l v a w Q h _ hn hl hlow hq
  rw [rounds_succ,zQm]
  obtain ⟨LV,ρ,hR,h0,hL⟩:=h.enter
  have pA:=p_A x k LV
  by_cases hk:k.val<=(k1 x).val
  ·rw [show decide (k.val<=(k1 x).val)=true by simpa using hk,cond_true] at pA
   have ev:(Rng.w .i64 (k.val+1)).val=k.val+1:=wi (by omega) (by omega)
   refine wp_seq (piece pA hR fun ρ1 a1 w1 e1 r1=>?_)
   have i1:=h.leave (hL ρ1 · e1) (e1 0 r0 h0) r1 rfl rfl rfl
   obtain ⟨LV2,ρ2,hR2,h02,hL2⟩:=i1.enter
   have last:∀(l':List I64) (v':Value) (a':Act) (w':World),TInv x wc r0 ty k l' v' a' w'->l'.length<=l.length+1->l'++ziG x n (.w .i64 (k.val+1))=l++ziG x (n+1) k->KTC.wp Tryz.prog (Exit.then (Code.rounds Tryz.prog KTL Q n) Q) a' w':=by
    intro l' v' a' w' i hlen heq
    obtain ⟨LV3,ρ3,hR3,h03,hL3⟩:=i.enter
    refine piece (p_C x k LV3) hR3 fun ρ4 a4 w4 e4 r4=>?_
    have i4:=i.leave (hL3 ρ4 · e4) (e4 0 r0 h03) r4 rfl rfl rfl
    exact ih _ _ _ _ _ Q i4 (by omega) (by rw [ev];omega) (by omega) (by rw [ev];omega) (fun k' v'' a'' w'' hh=>hq k' v'' a'' w'' (by rw [<- heq];exact hh))
   refine wp_seq (wp_block (wp_seq (piece (p_B x k LV2) hR2 fun ρ3 a2 w2 e2 r2=>?_)))
   have i2:=i1.leave (hL2 ρ3 · e2) (e2 0 r0 h02) r2 rfl rfl rfl
   obtain ⟨y,y1,y2⟩:=r2.tm 20 _ rfl
   cases y2
   refine wp_cond (zdF y1) ?_
   cases hov:zdZ (za4 k) x
   ·exact wp_skip (last l v a2 w2 i2 (by omega) (by simp only [ziG,hk,hov,decide_true,cond_true,cond_false]))
   ·refine wp_6 i2 (by omega) fun v' a' w' i3=>?_
    exact last (l ++ [k]) v' a' w' i3 (by simp) (by simp only [ziG,hk,hov,decide_true,cond_true,List.append_assoc,List.singleton_append])
  ·rw [show decide (k.val<=(k1 x).val)=false by simpa using hk,cond_false] at pA
   refine wp_seq (piece pA hR fun ρ1 a1 w1 e1 r1=>?_)
   have i1:=h.leave (hL ρ1 · e1) (e1 0 r0 h0) r1 rfl rfl rfl
   refine hq k v a1 w1 ?_
   simp only [ziG,hk,decide_false,cond_false,List.append_nil]
   exact i1
theorem k_bd (x:Iv): -201<=(k0 x).val/\(k1 x).val<=201/\(k0 x).val<=201:=by
 have h1:=znY x.lo
 have h2:=znY x.hi
 rw [<- zgM] at h1 h2
 unfold k0 k1
 rw [wi (by omega) (by omega),wi (by omega) (by omega)]
 omega
theorem zxQ (x:Iv) {ρ:Nat->Option Nat} {xs:List Value} {w:World} (hv:VRs ρ [enc x] xs) (ha:Am w):
  Does Tryz.prog 247 xs.toArray w fun v w'=>OwnI w.heap.size 2 w' v (ziG x 1000 (k0 x))/\Below w.heap.size w w':=by
 have hb:=k_bd x
 refine zsW BT (vs:= [enc x]) (show 1<=BT.fn.ntmps from Nat.le_of_ble_eq_true (by kernel_rfl)) hv rfl ha fun a hR=>?_
 rw [zRa]
 refine wp_seq (piece (p_0 x) hR fun ρ1 a1 w1 e1 r1=>?_)
 refine wp_seq (piece (p_1 x) r1 fun ρ2 a2 w2 e2 r2=>?_)
 refine wp_seq (wp_seq (piece (p_2 x) r2 fun ρ3 a3 w3 e3 r3=>?_))
 obtain ⟨r0,ys,ty,h0,hrow,hys⟩:=r3.mr.blk 0 _ rfl
 obtain ⟨y1,q1,u1⟩:=r3.tm 1 _ rfl
 obtain ⟨y4,q4,u4⟩:=r3.tm 4 _ rfl
 obtain ⟨y3,q3,u3⟩:=r3.tm 3 _ rfl
 have hr0b:=r3.mr.own 0 r0 (Nat.zero_le _) h0
 have i0:TInv x w r0 ty (k0 x) [] (.slice none 0 0) a3 w3:=by
  refine ⟨r3.sz,r3.df,?_,?_,?_,?_,.inl ⟨rfl,rfl⟩,by simp [Value.ownBlock],r3.mr.bel,hr0b,ha⟩
  ·cases u1;rename_i r hr;rw [h0] at hr;cases hr;exact q1
  ·cases u4;exact q4
  ·cases u3;exact q3
  ·cases hys with
   | cons h1 ht=>cases ht with
    | cons h2 ht=>cases ht;cases h1;cases h2;exact hrow
 refine wp_block (wp_loop_rounds 1000 (zCr (by omega) 1000 _ _ _ _ _ _ i0 (by decide) (by omega) (by simp) (by omega) fun k' v' a' w' i=>?_))
 simp only [List.nil_append] at i
 obtain ⟨LV,ρ4,hR4,h04,hL4⟩:=i.enter
 show KT7.wp _ _ _ _
 refine piece (p_7 x k' LV) hR4 fun ρ5 a5 w5 e5 r5=>?_
 have hres:resv (P:=Tryz.prog) [] ⟨[(2,LV)],26,⟨pair x,2,2⟩⟩ BT.fn.results.toList=some [LV]:=by
  have:BT.fn.results.toList= [.tmp 2]:=by kernel_rfl
  rw [this];rfl
 obtain ⟨z,z1,z2⟩:=zmx (P:=Tryz.prog) r5 hres
 have:=hL4 ρ5 z e5 z2
 subst this
 refine ⟨r5.df,z,z1,z,rfl,?_,?_⟩
 ·exact i.own.below r5.mr.bel
 ·exact i.bel.trans (r5.mr.bel.mono i.bel.size)
end Go.Proofs.YtaoakfodkoifoaaGreat.Ev
/-
 The walk of circleHull.
-/
namespace Go.Proofs.YtaoakfodkoifoaaGreat.Ev
open Go Go.RowKit
set_option maxRecDepth 100000
variable [Amb]
def TbH:Tb Tryz.prog:= {T:= [Y2,Y32],mix:=mix,Es:= [zo5,zkN,zkh,zju,zbi],N:=1}
def BH:Bod Tryz.prog:=⟨201,Tryz.f201,Tryz.f201.body.getD .skip,Tryz.func201,by kernel_rfl,by kernel_rfl,zar.no _ _⟩
def H0:Code:=sL BH.code
def H1:Code:=sL (sR BH.code)
def H3:Code:=sL (sR (sR BH.code))
def H4:Code:=sL (sL (sR (sR (sR BH.code))))
def HL:Code:=unl (unb (sR (sL (sR (sR (sR BH.code))))))
def H13:Code:=sR (sR (sR (sR BH.code)))
theorem zRc:BH.code=H0.seq (H1.seq (H3.seq ((H4.seq (.block 0 (.loop HL))).seq H13))):=by kernel_rfl
def H5:Code:=sL HL
def H6:Code:=sL (unb (sL (sR (sR HL))))
def H7:Code:=sR (unb (sL (sR (sR HL))))
def H12:Code:=sR (sR (sR HL))
theorem zQ7:HL=H5.seq ((Code.cond (.tmp 25) .skip (.exit 0)).seq ((Code.block 1 (H6.seq H7)).seq H12)):=by kernel_rfl
def oA (i:Nat):Oper:=(opsL H4).getD i default
theorem zQ9:H4= .region 4 [oA 0,oA 1,oA 2,oA 3].toArray false:=by kernel_rfl
def oB (i:Nat):Oper:=(opsL H6).getD i default
theorem zQ8:H6= .region 6 [oB 0,oB 1,oB 2].toArray false:=by kernel_rfl
theorem oA_0:(oA 0).guard=none/\(oA 0).dst=some 21:=⟨by kernel_rfl,by kernel_rfl⟩
theorem oA_1:(oA 1).guard=none/\(oA 1).op= .call {callee:= .value (.func 247),args:=#[.tmp 21],argTypes:=#[32]}/\(oA 1).dst=some 22:=⟨by kernel_rfl,by kernel_rfl,by kernel_rfl⟩
theorem oA_2:(oA 2).guard=none/\(oA 2).op= .call {callee:= .builtin .len,args:=#[.tmp 22],argTypes:=#[96]}/\(oA 2).dst=some 23:=⟨by kernel_rfl,by kernel_rfl,by kernel_rfl⟩
theorem oA_3:(oA 3).guard=none/\(oA 3).op= .move (.const (.int .i64 0))/\(oA 3).dst=some 24:=⟨by kernel_rfl,by kernel_rfl,by kernel_rfl⟩
theorem oB_0:(oB 0).guard=none/\(oB 0).op= .indexAddr 96 (.tmp 22) (.tmp 24)/\(oB 0).dst=some 26:=⟨by kernel_rfl,by kernel_rfl,by kernel_rfl⟩
theorem oB_1:(oB 1).guard=none/\(oB 1).op= .load 2 (.tmp 26)/\(oB 1).dst=some 27:=⟨by kernel_rfl,by kernel_rfl,by kernel_rfl⟩
theorem oB_2:(oB 2).guard=none/\(oB 2).op= .assign (.tmp 27)/\(oB 2).dst=some 7:=⟨by kernel_rfl,by kernel_rfl,by kernel_rfl⟩
def o0 (x:Iv) (t:I64):Iv:=zaG (zcJ x.lo t) (zcJ x.hi t)
def zko (x:Iv):List V:= [.i64 x.lo,.i64 x.hi]
def zI:Iv:=⟨⟨0,rfl⟩,⟨0,rfl⟩⟩
def s1H (x:Iv) (t:I64) (z:Iv):St:=⟨[(1,.i64 t),(2,.ptr 0 0),(4,.ptr 1 0)],44,⟨[(0,zko x),(1,zko z)],2,0⟩⟩
def s3H (x:Iv) (t:I64) (o:Iv):St:=⟨[(1,.i64 t),(2,.ptr 0 0),(4,.ptr 1 0),(5,.ptr 2 0)],44,⟨[(0,zko x),(1,zko zI),(2,zko o)],3,0⟩⟩
theorem q_0 (x:Iv) (t:I64):Piece TbH H0 [1,2,4] [0,1] ⟨zipF 0 [enc x,enc t],44,⟨[],0,0⟩⟩=some (.norm,s1H x t zI):=by kernel_rfl
theorem q_1 (x:Iv) (t:I64):Piece TbH H1 [1,2,4] [0,1] (s1H x t zI)=bif !(zb5 x) then some (.ret,s1H x t zeR) else some (.norm,s1H x t zI):=by kernel_rfl
theorem q_3 (x:Iv) (t:I64):Piece TbH H3 [1,2,4,5] [0,1,2] (s1H x t zI)=some (.norm,s3H x t (o0 x t)):=by kernel_rfl
theorem q_4 (x:Iv) (t:I64):opk (A:=V×Mem) TbH.T (zoH TbH.T (fun _=>TbH.drw) TbH.Es TbH.Bs TbH.N TbH.d) (s3H x t (o0 x t)) (oA 0) (fun v m=>some (v,m))=some (enc x,(s3H x t (o0 x t)).mm):=by kernel_rfl
inductive Fr:List Nat->List (Nat×List V)->V->Prop
 | nil:Fr [2,1] [] .nils
 | slc (n c:Nat) (cs:List V):Fr [2,1,3] [(3,cs)] (.slc 3 0 n c)
def sH (t:I64) (o:Iv) (n i:I64) (tl:List (Nat×List V)) (LV:V) (ex:List (Nat×V)):St:=⟨ex ++ [(1,.i64 t),(4,.ptr 1 0),(5,.ptr 2 0),(22,LV),(23,.i64 n),(24,.i64 i)],44,⟨(2,zko o)::(1,zko zI)::tl,4,0⟩⟩
theorem q_5 {t:I64} {o:Iv} {n i:I64} {bl:List Nat} {tl:List (Nat×List V)} {LV:V} (h:Fr bl tl LV):
  Piece TbH H5 [25,1,4,5,22,23,24] bl (sH t o n i tl LV [])=some (.norm,sH t o n i tl LV [(25,.bool (decide (i.val<n.val)))]):=by cases h<;>kernel_rfl
def znu (t k:I64):I64:= .w .i64 (zbI .and .i64 (Rng.w .i64 (k.val+t.val)).val 3)
theorem q_7 {t:I64} {o:Iv} {n i k:I64} {bl:List Nat} {tl:List (Nat×List V)} {LV:V} (h:Fr bl tl LV):
  Piece TbH H7 [1,4,5,22,23,24] bl (sH t o n i tl LV [(7,.i64 k)])=bif (znu t k).val==1 then some (.norm,sH t (zaG o (zw ⟨1,rfl⟩)) n i tl LV []) else
   bif (znu t k).val==3 then some (.norm,sH t (zaG o (zw ⟨-1,rfl⟩)) n i tl LV []) else some (.norm,sH t o n i tl LV []):=by cases h<;>kernel_rfl
theorem q_12 {t:I64} {o:Iv} {n i:I64} {bl:List Nat} {tl:List (Nat×List V)} {LV:V} (h:Fr bl tl LV):
  Piece TbH H12 [1,4,5,22,23,24] bl (sH t o n i tl LV [])=some (.norm,sH t o n (.w .i64 (i.val+1)) tl LV []):=by cases h<;>kernel_rfl
theorem q_13 {t:I64} {o:Iv} {n i:I64} {bl:List Nat} {tl:List (Nat×List V)} {LV:V} (h:Fr bl tl LV):
  Piece TbH H13 [4] [1] (sH t o n i tl LV [])=some (.ret,⟨[(4,.ptr 1 0)],44,⟨[(1,zko o)],4,0⟩⟩):=by cases h<;>kernel_rfl
end Go.Proofs.YtaoakfodkoifoaaGreat.Ev
/-
 The walk of circleHull: the loop,and its entry.
-/
namespace Go.Proofs.YtaoakfodkoifoaaGreat.Ev
open Go Go.RowKit
set_option maxRecDepth 100000
variable [Amb]
def znD (t:I64):List I64->Iv->Iv
 | [],o=>o
 | k::l,o=>znD t l (bif (znu t k).val==1 then zaG o (zw ⟨1,rfl⟩) else bif (znu t k).val==3 then zaG o (zw ⟨-1,rfl⟩) else o)
theorem zB6 {ρ:Nat->Option Nat}:∀ {l:List I64} {xs:List Value},VRs ρ (l.map V.i64) xs->xs=l.map iv64
 | [],xs,h=>by cases h;rfl
 | k::l,xs,h=>by
  cases h with
  | cons h t=>cases h;rw [zB6 t];rfl
theorem zGc {ρ:Nat->Option Nat}:∀(l:List I64),VRs ρ (l.map V.i64) (l.map iv64)
 | []=> .nil
 | k::l=> .cons (.i64 k) (zGc l)
structure HInv (t:I64) (wc:World) (L:List I64) (v:Value) (n i:I64) (o:Iv) (ex:List (Nat×V)) (bl:List Nat) (tl:List (Nat×List V)) (LV:V) (ρ:Nat->Option Nat) (a:Act) (w:World):Prop where
 rel:Rel wc ρ (sH t o n i tl LV ex) a w
 fr:Fr bl tl LV
 hv:a.tmps[22]?=some v
 ls:(v= .slice none 0 0/\L= []/\tl= [])\/∃g cap m,v= .slice (some ⟨g,0,none⟩) L.length cap/\ρ 3=some g/\tl= [(3,(L++m).map V.i64)]
section
variable {t:I64} {wc:World} {L:List I64} {v:Value} {n i:I64} {o:Iv} {ex:List (Nat×V)} {bl:List Nat} {tl:List (Nat×List V)} {LV:V} {ρ:Nat->Option Nat} {a:Act} {w:World}
theorem HInv.go (h:HInv t wc L v n i o ex bl tl LV ρ a w) (hLV:(v= .slice none 0 0/\LV= .nils)\/∃g cap,v= .slice (some ⟨g,0,none⟩) L.length cap/\LV= .slc 3 0 L.length cap/\ρ 3=some g) {ρ':Nat->Option Nat} (e:Ext ρ ρ') {o':Iv} {i':I64} {ex':List (Nat×V)} {a':Act} {w':World}
  (hr:Rel wc ρ' (sH t o' n i' tl LV ex') a' w') (h22:lk ex' 22=none) (hlk:lk (sH t o' n i' tl LV ex').tm 22=some LV):HInv t wc L v n i' o' ex' bl tl LV ρ' a' w':=by
 obtain ⟨y,y1,y2⟩:=hr.tm 22 _ hlk
 refine ⟨hr,h.fr,?_,?_⟩
 ·rcases hLV with ⟨rfl,rfl⟩|⟨g,cap,rfl,rfl,hg⟩
  ·cases y2;exact y1
  ·cases y2
   rename_i r hr'
   rw [e 3 g hg] at hr';cases hr';exact y1
 ·rcases h.ls with h1|⟨g,cap,m,h1,h2,h3⟩
  ·exact .inl h1
  ·exact .inr ⟨g,cap,m,h1,e 3 g h2,h3⟩
end
theorem zC5 {t:I64} {wc:World} {L:List I64} {v:Value} {n:I64} {bl:List Nat} {tl:List (Nat×List V)} {LV:V} (hn:n.val=L.length) (hL:L.length<=4000):
  ∀(m:Nat) (i:I64) (o:Iv) (ρ:Nat->Option Nat) (a:Act) (w:World) (Q:Exit->Act->World->Prop),HInv t wc L v n i o [] bl tl LV ρ a w->
  ((v= .slice none 0 0/\LV= .nils)\/∃g cap,v= .slice (some ⟨g,0,none⟩) L.length cap/\LV= .slc 3 0 L.length cap/\ρ 3=some g)->
  0<=i.val->i.val+m=L.length+1->1<=m->(∀i' ρ' a' w',HInv t wc L v n i' (znD t (L.drop i.val.toNat) o) [] bl tl LV ρ' a' w'->Q (.exit 0) a' w')->Code.rounds Tryz.prog HL Q m a w:=by
 intro m
 induction m with
 | zero=>intro i o ρ a w Q _ _ _ _ h;omega
 | succ m ih=>
  intro i o ρ a w Q h hLV hi hm _ hq
  rw [rounds_succ,zQ7]
  refine wp_seq (piece (q_5 h.fr) h.rel fun ρ1 a1 w1 e1 r1'=>?_)
  have hLV1:(v= .slice none 0 0/\LV= .nils)\/∃g cap,v= .slice (some ⟨g,0,none⟩) L.length cap/\LV= .slc 3 0 L.length cap/\ρ1 3=some g:=by
   rcases hLV with h|⟨g,cap,h1,h2,h3⟩
   ·exact .inl h
   ·exact .inr ⟨g,cap,h1,h2,e1 3 g h3⟩
  have i1:=h.go hLV e1 (ex':= [(25,.bool (decide (i.val<n.val)))]) r1' rfl rfl
  obtain ⟨y,y1,y2⟩:=r1'.tm 25 _ rfl
  cases y2
  refine wp_seq (wp_cond (zdF y1) ?_)
  by_cases hlt:i.val<n.val
  ·rw [show decide (i.val<n.val)=true by simpa using hlt,if_pos rfl]
   refine wp_skip ?_
   show ((Code.block 1 (H6.seq H7)).seq H12).wp _ _ _ _
   refine wp_seq (wp_block (wp_seq ?_))
   rcases i1.ls with ⟨rfl,rfl,_⟩|⟨g,cap,mm,rfl,hg,htl⟩
   ·simp at hn;omega
   have hil:i.val.toNat<L.length:=by omega
   obtain ⟨kk,hkk⟩:∃kk,L[i.val.toNat]?=some kk:=⟨L[i.val.toNat],by simp [hil]⟩
   obtain ⟨g',ys,ty,hg',hrow,hys⟩:=r1'.mr.blk 3 ((L++mm).map V.i64) (by rw [htl];rfl)
   rw [hg] at hg';cases hg'
   have hyse:=zB6 hys
   subst hyse
   obtain ⟨y24,z1,z2⟩:=r1'.tm 24 _ rfl
   cases z2
   have hsz:a1.tmps.size=44:=r1'.sz
   rw [zQ8]
   refine wp_region_lit ?_
   obtain ⟨ti,tz,hti,_,hts,_,_⟩:=zGj
   have hcs:Tryz.prog.cellsOf 2=1:=by simp [Program.cellsOf,hti,hts]
   refine Go.Great.wpList_runTo oB_0.1 (some 26) oB_0.2.2 (.pointer (some ⟨g,0+i.val.toNat*1,none⟩)) w1 ?_ ?_
   ·have hsr:=ziF (P:=Tryz.prog) (t:=2) hcs (by decide) w1
    have hrun:(Instr.indexAt 96 (.slice (some ⟨g,0,none⟩) L.length cap) (.int .i64 i.val)).run Tryz.prog w1= .ok (.pointer (some ⟨g,0+i.val.toNat*1,none⟩)) w1:=by
     simp [Instr.indexAt,asIntOf,run_underlying zsq,hi,show i.val<(L.length:Int) by omega,hsr,addr_add]
    simp only [execOp,oB_0.2.1,zdF i1.hv,zdF z1,Sem.run_bind,hrun,Result.andThen_ok,Sem.run_pure]
   have f1:(a1.put (some 26) (.pointer (some ⟨g,0+i.val.toNat*1,none⟩))).tmps[26]?=some (.pointer (some ⟨g,0+i.val.toNat*1,none⟩)):=by rw [za8 (by omega),if_pos rfl]
   have g1:(a1.put (some 26) (.pointer (some ⟨g,0+i.val.toNat*1,none⟩))).tmps.size=44:=by rw [zfi,hsz]
   have hcell:w1.cell? ⟨g,0+i.val.toNat*1,none⟩=some (iv64 kk):=by
    rw [cell_of_row w1 g _ _ ty _ hrow]
    simp only [Nat.zero_add,Nat.mul_one,List.getElem?_toArray,List.getElem?_map]
    rw [List.getElem?_append_left hil,hkk];rfl
   refine Go.Great.wpList_runTo oB_1.1 (some 27) oB_1.2.2 (iv64 kk) w1 ?_ ?_
   ·have hagg:=Y2.run_agg (b:=false) (by kernel_rfl) w1
    have hag:(isAgg 2).run Tryz.prog w1= .ok false w1:=hagg
    simp only [execOp,oB_1.2.1,zdF f1,Instr.loadAt,Instr.sureAddr,loadVar,hag,Sem.run_bind,Sem.run_pure,Result.andThen_ok,Bool.false_eq_true,if_false,run_load,hcell]
   generalize hA2:a1.put (some 26) (.pointer (some ⟨g,0+i.val.toNat*1,none⟩))=a2 at *
   have f2:(a2.put (some 27) (iv64 kk)).tmps[27]?=some (iv64 kk):=by rw [za8 (by omega),if_pos rfl]
   have g2:(a2.put (some 27) (iv64 kk)).tmps.size=44:=by rw [zfi,g1]
   refine Go.Great.wpList_runTo oB_2.1 (some 7) oB_2.2.2 (iv64 kk) w1 (by simp only [execOp,oB_2.2.1,Sem.run_pure,zdF f2]) ?_
   refine wpList_nil ?_
   show H7.wp _ _ _ _
   have r2:Rel wc ρ1 (sH t o n i tl LV [(7,.i64 kk)]) ((a2.put (some 27) (iv64 kk)).put (some 7) (iv64 kk)) w1:=by
    refine ⟨fun t' u hu=>?_,by rw [zfi,g2];rfl,?_,r1'.mr⟩
    ·simp only [sH,List.cons_append,List.nil_append,zbz] at hu
     by_cases h7:7=t'
     ·subst h7
      simp at hu;subst hu
      exact ⟨iv64 kk,by rw [za8 (by omega),if_pos rfl],.i64 _⟩
     ·rw [if_neg h7] at hu
      have hu':lk (sH t o n i tl LV [(25,.bool (decide (i.val<n.val)))]).tm t'=some u/\t'≠26/\t'≠27:=by
       simp only [sH,List.cons_append,List.nil_append,zbz]
       by_cases h25:25=t'
       ·subst h25;simp [lk] at hu
       ·rw [if_neg h25]
        refine ⟨hu,?_,?_⟩
        ·rintro rfl;simp [lk] at hu
        ·rintro rfl;simp [lk] at hu
      obtain ⟨y,y1,y2⟩:=r1'.tm t' u hu'.1
      refine ⟨y,?_,y2⟩
      rw [za8 (by omega),if_neg (fun e=>h7 e.symm),za8 (by omega),if_neg hu'.2.2,<- hA2,za8 (by omega),if_neg hu'.2.1]
      exact y1
    ·rw [zlm,zlm,<- hA2,zlm];exact r1'.df
   have i2:HInv t wc L (.slice (some ⟨g,0,none⟩) L.length cap) n i o [(7,.i64 kk)] bl tl LV ρ1 ((a2.put (some 27) (iv64 kk)).put (some 7) (iv64 kk)) w1:=by
    refine ⟨r2,i1.fr,?_,i1.ls⟩
    rw [za8 (by omega),if_neg (by decide),za8 (by omega),if_neg (by decide),<- hA2,za8 (by omega),if_neg (by decide)]
    exact i1.hv
   have hdrop:L.drop i.val.toNat=kk::L.drop (i.val.toNat+1):=by
    have hkk':L[i.val.toNat]=kk:=by rw [List.getElem?_eq_getElem hil] at hkk;simpa using hkk
    rw [List.drop_eq_getElem_cons hil,hkk']
   have ev:(Rng.w .i64 (i.val+1)).val=i.val+1:=wi (by omega) (by omega)
   have last:∀(o':Iv),o'=(bif (znu t kk).val==1 then zaG o (zw ⟨1,rfl⟩) else bif (znu t kk).val==3 then zaG o (zw ⟨-1,rfl⟩) else o)->
     ∀(ρ3:Nat->Option Nat) (a3:Act) (w3:World),Ext ρ1 ρ3->Rel wc ρ3 (sH t o' n i tl LV []) a3 w3->H12.wp Tryz.prog (Exit.then (Code.rounds Tryz.prog HL Q m) Q) a3 w3:=by
    intro o' ho' ρ3 a3 w3 e3 r3
    have i3:=i2.go hLV1 e3 (ex':= []) r3 rfl rfl
    have hLV3:(Value.slice (some ⟨g,0,none⟩) L.length cap= .slice none 0 0/\LV= .nils)\/∃g' cap',Value.slice (some ⟨g,0,none⟩) L.length cap= .slice (some ⟨g',0,none⟩) L.length cap'/\LV= .slc 3 0 L.length cap'/\ρ3 3=some g':=by
     rcases hLV1 with h|⟨g',cap',h1,h2,h3⟩
     ·exact .inl h
     ·exact .inr ⟨g',cap',h1,h2,e3 3 g' h3⟩
    refine piece (q_12 i3.fr) i3.rel fun ρ4 a4 w4 e4 r4=>?_
    have i4:=i3.go hLV3 e4 (ex':= []) r4 rfl rfl
    refine ih (.w .i64 (i.val+1)) o' ρ4 a4 w4 Q i4 ?_ (by rw [ev];omega) (by rw [ev];omega) (by omega) fun i' ρ' a' w' hh=>hq i' ρ' a' w' ?_
    ·rcases hLV3 with h|⟨g',cap',h1,h2,h3⟩
     ·exact .inl h
     ·exact .inr ⟨g',cap',h1,h2,e4 3 g' h3⟩
    ·rw [hdrop]
     simp only [znD]
     rw [<- ho']
     rw [ev,show (i.val+1).toNat=i.val.toNat+1 by omega] at hh
     exact hh
   have q7:=q_7 (t:=t) (o:=o) (n:=n) (i:=i) (k:=kk) i2.fr
   cases hc1:((znu t kk).val==1)
   ·rw [hc1,cond_false] at q7
    cases hc3:((znu t kk).val==3)
    ·rw [hc3,cond_false] at q7
     exact piece q7 i2.rel fun ρ3 a3 w3 e3 r3=>last _ (by rw [hc1,hc3];rfl) ρ3 a3 w3 e3 r3
    ·rw [hc3,cond_true] at q7
     exact piece q7 i2.rel fun ρ3 a3 w3 e3 r3=>last _ (by rw [hc1,hc3];rfl) ρ3 a3 w3 e3 r3
   ·rw [hc1,cond_true] at q7
    exact piece q7 i2.rel fun ρ3 a3 w3 e3 r3=>last _ (by rw [hc1];rfl) ρ3 a3 w3 e3 r3
  ·rw [show decide (i.val<n.val)=false by simpa using hlt,if_neg (by decide)]
   refine wp_exit ?_
   have hd:L.drop i.val.toNat= []:=List.drop_eq_nil_of_le (by omega)
   rw [hd] at hq
   refine hq i ρ1 a1 w1 ⟨?_,i1.fr,i1.hv,i1.ls⟩
   exact ⟨fun t' u hu=>r1'.tm t' u (by
    simp only [sH,List.cons_append,List.nil_append,zbz] at hu ⊢
    by_cases h25:25=t'
    ·subst h25;simp [lk] at hu
    ·rw [if_neg h25];exact hu),r1'.sz,r1'.df,r1'.mr⟩
end Go.Proofs.YtaoakfodkoifoaaGreat.Ev
/-
 The walk of circleHull: its entry.
-/
namespace Go.Proofs.YtaoakfodkoifoaaGreat.Ev
open Go Go.RowKit
set_option maxRecDepth 100000
variable [Amb]
def zaZ (x:Iv) (t:I64):Iv:=bif !(zb5 x) then zeR else znD t (ziG x 1000 (k0 x)) (o0 x t)
theorem zvR (x:Iv):∀(n:Nat) (k:I64),(ziG x n k).length<=n
 | 0,k=>by simp [ziG]
 | n+1,k=>by
  have:=zvR x n (.w .i64 (k.val+1))
  simp only [ziG]
  cases decide (k.val<=(k1 x).val)
  ·simp
  ·cases zdZ (za4 k) x
   ·simp only [cond_true,cond_false];omega
   ·simp only [cond_true,List.length_cons];omega
theorem zGX {P:Program} {t:Tb P} {s:St} {o:Oper} {v:V} {m:Mem} (h:opk (A:=V×Mem) t.T (zoH t.T (fun _=>t.drw) t.Es t.Bs t.N t.d) s o (fun v m=>some (v,m))=some (v,m)) (hg:o.guard=none) (hf:s.fits o.dst=true)
  {w0:World} {ρ:Nat->Option Nat} {a:Act} {w:World} {ops:Array Oper} {rest:List Oper} {Q:Exit->Act->World->Prop} (hr:Rel w0 ρ s a w) (hq:∀ρ' a' w',Ext ρ ρ'->Rel w0 ρ' (s.put o.dst v m) a' w'->wpList P ops Q rest a' w'):wpList P ops Q (o::rest) a w:=by
 refine wpList_plain hg fun K hK=>?_
 refine zpA (zh7 (fun _ _=>t.zdO w0) t.d) h hr fun v' m' ρ' x w' e hv hm _ hk=>?_
 simp only [Option.some.injEq,Prod.mk.injEq] at hk
 obtain ⟨rfl,rfl⟩:=hk
 exact hK _ _ (hq ρ' _ w' e (hr.put e hv hf hm))
theorem zGU {B:Nat} {e:TypeId} {w:World} {v:Value} {l:List I64} (h:OwnI B e w v l):∃a c,v= .slice a l.length c:=by
 rcases h with ⟨rfl,rfl⟩|⟨g,cap,m,rfl,_⟩
 ·exact ⟨_,_,rfl⟩
 ·exact ⟨_,_,rfl⟩
theorem zHG (x:Iv) (t:I64) {ρ:Nat->Option Nat} {xs:List Value} {w:World} (hv:VRs ρ [enc x,enc t] xs) (ha:Am w):
  Does Tryz.prog 201 xs.toArray w fun v w'=>(∀ρ,VR ρ (enc (zaZ x t)) v)/\Below w.heap.size w w':=by
 refine zsW BH (vs:= [enc x,enc t]) (show 2<=BH.fn.ntmps from Nat.le_of_ble_eq_true (by kernel_rfl)) hv rfl ha fun a hR=>?_
 have hres:∀(o:Iv) (tm:List (Nat×V)) (bs:List (Nat×List V)) (n:Nat),resv (P:=Tryz.prog) TbH.T ⟨(4,.ptr 1 0)::tm,44,⟨(1,zko o)::bs,n,0⟩⟩ BH.fn.results.toList=some [enc o]:=by
  intro o tm bs n;kernel_rfl
 have fin:∀(o:Iv) (tm:List (Nat×V)) (bs:List (Nat×List V)) (n:Nat) (ρ':Nat->Option Nat) (a':Act) (w':World),o=zaZ x t->Rel w ρ' ⟨(4,.ptr 1 0)::tm,44,⟨(1,zko o)::bs,n,0⟩⟩ a' w'->
   bodyPost Tryz.prog BH.fn (fun e w'=>∃v,e= .returned v/\(∀ρ,VR ρ (enc (zaZ x t)) v)/\Below w.heap.size w w') .ret a' w':=by
  intro o tm bs n ρ' a' w' ho hr
  obtain ⟨z,z1,z2⟩:=zmx (P:=Tryz.prog) hr (hres o tm bs n)
  subst ho
  exact ⟨hr.df,z,z1,z,rfl,fun ρ2=>z2.pf rfl,hr.mr.bel⟩
 rw [zRc]
 refine wp_seq (piece (q_0 x t) hR fun ρ1 a1 w1 e1 r1=>?_)
 have q1:=q_1 x t
 cases hang:zb5 x
 ·rw [hang,Bool.not_false,cond_true] at q1
  refine wp_seq (piece q1 r1 fun ρ2 a2 w2 e2 r2=>?_)
  refine fin zeR [] [] 2 ρ2 a2 w2 (by simp only [zaZ,hang,Bool.not_false,cond_true]) ⟨fun t' u hu=>r2.tm t' u ?_,r2.sz,r2.df,⟨fun b cs hb=>r2.mr.blk b cs ?_,r2.mr.inj,r2.mr.fresh,r2.mr.dom,r2.mr.own,r2.mr.bel,r2.mr.lon,r2.mr.am⟩⟩
  ·simp only [s1H,zbz] at hu ⊢
   by_cases h4:4=t'
   ·subst h4;simpa using hu
   ·rw [if_neg h4] at hu;simp [lk] at hu
  ·simp only [s1H,zbz] at hb ⊢
   by_cases h4:1=b
   ·subst h4;simpa using hb
   ·rw [if_neg h4] at hb;simp [lk] at hb
 rw [hang,Bool.not_true,cond_false] at q1
 refine wp_seq (piece q1 r1 fun ρ2 a2 w2 e2 r2=>?_)
 show (H3.seq ((H4.seq (.block 0 (.loop HL))).seq H13)).wp _ _ _ _
 refine wp_seq (piece (q_3 x t) r2 fun ρ3 a3 w3 e3 r3=>?_)
 show ((H4.seq (.block 0 (.loop HL))).seq H13).wp _ _ _ _
 refine wp_seq (wp_seq ?_)
 rw [zQ9]
 refine wp_region_lit ?_
 refine zGX (q_4 x t) oA_0.1 (by rw [oA_0.2];rfl) r3 fun ρ4 a4 w4 e4 r4=>?_
 rw [oA_0.2] at r4
 obtain ⟨y21,p1,p2⟩:=r4.tm 21 (enc x) rfl
 have hb1:=r4.mr.bel
 refine wpList_plain oA_1.1 fun K hK=>?_
 have ecall:(execOp a4.eval (oA 1)).run Tryz.prog w4=(callFunc 247 [y21].toArray).run Tryz.prog w4:=by
  simp only [execOp,oA_1.2.1,resolve,List.map_toArray,List.map_cons,List.map_nil,zdF p1]
  rfl
 unfold Oper.wp
 rw [ecall]
 refine zxQ x (.cons p2 .nil) r4.mr.amb (oA 1) a4 K _ fun v w5 hvw=>hK _ _ ?_
 obtain ⟨hown,hbel⟩:=hvw
 rw [oA_1.2.2]
 have hsz:a4.tmps.size=44:=r4.sz
 have s1:(a4.put (some 22) v).tmps.size=44:=by rw [zfi,hsz]
 have f22:(a4.put (some 22) v).tmps[22]?=some v:=by rw [za8 (by omega),if_pos rfl]
 have hlen:=zvR x 1000 (k0 x)
 generalize hL:ziG x 1000 (k0 x)=L at *
 obtain ⟨av,cv,hve⟩:=zGU hown
 refine Go.Great.wpList_runTo oA_2.1 (some 23) oA_2.2.2 (.int .i64 (L.length:Int)) w5 ?_ ?_
 ·have hrun:(Builtin.len_ #[96] (oA 2).type #[v]).run Tryz.prog w5= .ok (.int .i64 (L.length:Int)) w5:=by
   have h1:(#[96]:Array TypeId)[0]?=some 96:=rfl
   have h2:(#[v]:Array Value)[0]?=some (.slice av L.length cv):=by rw [hve];rfl
   simp only [Builtin.len_,h1,h2,Sem.run_bind,run_underlying zsq,Result.andThen_ok,Sem.run_pure,goInt]
  simp only [execOp,oA_2.2.1,resolve,invoke,builtin,pure_bind,List.map_toArray,List.map_cons,List.map_nil,zdF f22,Sem.run_bind,Sem.run_pure,hrun,Result.andThen_ok]
 have s2:((a4.put (some 22) v).put (some 23) (.int .i64 (L.length:Int))).tmps.size=44:=by rw [zfi,s1]
 refine Go.Great.wpList_runTo oA_3.1 (some 24) oA_3.2.2 (.int .i64 0) w5 (by simp only [execOp,oA_3.2.1,Act.eval,Sem.run_pure]) ?_
 have s3:(((a4.put (some 22) v).put (some 23) (.int .i64 (L.length:Int))).put (some 24) (.int .i64 0)).tmps.size=44:=by rw [zfi,s2]
 have g22:(((a4.put (some 22) v).put (some 23) (.int .i64 (L.length:Int))).put (some 24) (.int .i64 0)).tmps[22]?=some v:=by rw [za8 (by omega),if_neg (by decide),za8 (by omega),if_neg (by decide),za8 (by omega),if_pos rfl]
 have g23:(((a4.put (some 22) v).put (some 23) (.int .i64 (L.length:Int))).put (some 24) (.int .i64 0)).tmps[23]?=some (.int .i64 (L.length:Int)):=by rw [za8 (by omega),if_neg (by decide),za8 (by omega),if_pos rfl]
 have g24:(((a4.put (some 22) v).put (some 23) (.int .i64 (L.length:Int))).put (some 24) (.int .i64 0)).tmps[24]?=some (.int .i64 0):=by rw [za8 (by omega),if_pos rfl]
 have gold:∀t',t'≠22->t'≠23->t'≠24->(((a4.put (some 22) v).put (some 23) (.int .i64 (L.length:Int))).put (some 24) (.int .i64 0)).tmps[t']?=a4.tmps[t']?:=fun t' h1 h2 h3=>by
  rw [za8 (by omega),if_neg h3,za8 (by omega),if_neg h2,za8 (by omega),if_neg h1]
 have gdf:(((a4.put (some 22) v).put (some 23) (.int .i64 (L.length:Int))).put (some 24) (.int .i64 0)).defers= []:=by rw [zlm,zlm,zlm];exact r4.df
 generalize ((a4.put (some 22) v).put (some 23) (.int .i64 (L.length:Int))).put (some 24) (.int .i64 0)=a6 at *
 refine wpList_nil ?_
 show (Code.block 0 (.loop HL)).wp _ _ _ _
 have hnv:(Rng.w .i64 (L.length:Int)).val=L.length:=wi (by omega) (by omega)
 -- the state in the loop
 have mk:∀(ρ5:Nat->Option Nat) (tl:List (Nat×List V)) (LV:V),Ext ρ4 ρ5->VR ρ5 LV v->(∀b r,ρ5 b=some r->ρ4 b=some r\/(b=3/\w4.heap.size<=r/\r<w5.heap.size))->
   (∀b cs,lk tl b=some cs->∃r xs t,ρ5 b=some r/\w5.heap[r]?=some (.cells xs.toArray t (0,0))/\VRs ρ5 cs xs)->Rel w ρ5 (sH t (o0 x t) (.w .i64 (L.length:Int)) ⟨0,rfl⟩ tl LV []) a6 w5:=by
  intro ρ5 tl LV he hLV hnew htl
  have old:∀b r,ρ4 b=some r->r<w4.heap.size:=r4.mr.dom
  refine ⟨fun t' u hu=>?_,s3,gdf,⟨fun b cs hb=>?_,fun b b' r h1 h2=>?_,fun b hb=>?_,fun b r hr=>?_,fun b r _ hr=>?_,hb1.trans (hbel.mono hb1.size),Nat.zero_le _,r4.mr.am⟩⟩
  ·simp only [sH,List.nil_append,zbz] at hu
   by_cases h1:1=t'
   ·subst h1;simp at hu;subst hu
    obtain ⟨y,y1,y2⟩:=r4.tm 1 (.i64 t) rfl
    exact ⟨y,by rw [gold 1 (by decide) (by decide) (by decide)];exact y1,y2.mono he⟩
   rw [if_neg h1] at hu
   by_cases h4:4=t'
   ·subst h4;simp at hu;subst hu
    obtain ⟨y,y1,y2⟩:=r4.tm 4 (.ptr 1 0) rfl
    exact ⟨y,by rw [gold 4 (by decide) (by decide) (by decide)];exact y1,y2.mono he⟩
   rw [if_neg h4] at hu
   by_cases h5:5=t'
   ·subst h5;simp at hu;subst hu
    obtain ⟨y,y1,y2⟩:=r4.tm 5 (.ptr 2 0) rfl
    exact ⟨y,by rw [gold 5 (by decide) (by decide) (by decide)];exact y1,y2.mono he⟩
   rw [if_neg h5] at hu
   by_cases h22:22=t'
   ·subst h22;simp at hu;subst hu;exact ⟨v,g22,hLV⟩
   rw [if_neg h22] at hu
   by_cases h23:23=t'
   ·subst h23;simp at hu;subst hu
    refine ⟨_,g23,?_⟩
    have:=VR.i64 (ρ:=ρ5) (Rng.w .i64 (L.length:Int))
    rw [hnv] at this;exact this
   rw [if_neg h23] at hu
   by_cases h24:24=t'
   ·subst h24;simp at hu;subst hu;exact ⟨_,g24,.i64 _⟩
   rw [if_neg h24] at hu;simp [lk] at hu
  ·have keep:∀b cs,lk (s3H x t (o0 x t)).mm.blks b=some cs->∃r xs t,ρ5 b=some r/\w5.heap[r]?=some (.cells xs.toArray t (0,0))/\VRs ρ5 cs xs:=fun b cs hb=>by
    obtain ⟨r,xs,t',h1,h2,h3⟩:=r4.mr.blk b cs hb
    exact ⟨r,xs,t',he _ _ h1,by rw [hbel.block r (old b r h1)];exact h2,h3.mono he⟩
   simp only [sH,zbz] at hb
   by_cases h2:2=b
   ·subst h2;simp at hb;subst hb;exact keep 2 _ rfl
   rw [if_neg h2] at hb
   by_cases h1:1=b
   ·subst h1;simp at hb;subst hb;exact keep 1 _ rfl
   rw [if_neg h1] at hb
   exact htl b cs hb
  ·rcases hnew b r h1 with h1|h1<;>rcases hnew b' r h2 with h2|h2
   ·exact r4.mr.inj b b' r h1 h2
   ·have:=old b r h1;omega
   ·have:=old b' r h2;omega
   ·omega
  ·have hb3:4<=b:=hb
   cases hr:ρ5 b with
   | none=>rfl
   | some r=>
    rcases hnew b r hr with h1|h1
    ·have:=r4.mr.fresh b (show 3<=b by omega)
     rw [this] at h1;cases h1
    ·omega
  ·rcases hnew b r hr with h1|h1
   ·have h2:=old b r h1;have h3:=hbel.size;omega
   ·exact h1.2.2
  ·rcases hnew b r hr with h1|h1
   ·exact r4.mr.own b r (Nat.zero_le _) h1
   ·have h2:=hb1.size;omega
 have run:∀(ρ5:Nat->Option Nat) (bl:List Nat) (tl:List (Nat×List V)) (LV:V),HInv t w L v (.w .i64 (L.length:Int)) ⟨0,rfl⟩ (o0 x t) [] bl tl LV ρ5 a6 w5->
   ((v= .slice none 0 0/\LV= .nils)\/∃g cap,v= .slice (some ⟨g,0,none⟩) L.length cap/\LV= .slc 3 0 L.length cap/\ρ5 3=some g)->
   (Code.block 0 (.loop HL)).wp Tryz.prog (Exit.then (H13.wp Tryz.prog (bodyPost Tryz.prog BH.fn (fun e w'=>∃v,e= .returned v/\(∀ρ,VR ρ (enc (zaZ x t)) v)/\Below w.heap.size w w'))) (bodyPost Tryz.prog BH.fn (fun e w'=>∃v,e= .returned v/\(∀ρ,VR ρ (enc (zaZ x t)) v)/\Below w.heap.size w w'))) a6 w5:=by
  intro ρ5 bl tl LV hi hLV
  refine wp_block (wp_loop_rounds (L.length+1) (zC5 hnv (by omega) (L.length+1) ⟨0,rfl⟩ _ _ _ _ _ hi hLV (by decide) (by simp) (by omega) fun i' ρ6 a7 w7 hh=>?_))
  show H13.wp _ _ _ _
  refine piece (q_13 hh.fr) hh.rel fun ρ7 a8 w8 e8 r8=>?_
  refine fin _ [] [] 4 ρ7 a8 w8 ?_ r8
  simp only [zaZ,hang,Bool.not_true,cond_false,hL]
  rfl
 rcases hown with ⟨rfl,hLn⟩|⟨g,cap,m,rfl,h2,h3,h4⟩
 ·refine run ρ4 [2,1] [] .nils ⟨mk ρ4 [] .nils (Ext.refl _) .nils (fun b r h=> .inl h) (fun b cs h=>by simp [lk] at h),.nil,g22,.inl ⟨rfl,hLn,rfl⟩⟩ (.inl ⟨rfl,rfl⟩)
 ·have hgs:g<w5.heap.size:=(Array.getElem?_eq_some_iff.1 h3).1
  have hn3:ρ4 3=none:=r4.mr.fresh 3 (show 3<=3 by omega)
  have hE:Ext ρ4 (fun b=>if b=3 then some g else ρ4 b):=fun b r hr=>by
   by_cases hb:b=3
   ·subst hb;rw [hn3] at hr;cases hr
   ·simp [hb,hr]
  have h33:(fun b=>if b=3 then some g else ρ4 b:Nat->Option Nat) 3=some g:=by simp
  refine run _ [2,1,3] [(3,(L++m).map V.i64)] (.slc 3 0 L.length cap) ⟨mk _ _ _ hE (.slc h33) (fun b r hr=>?_) (fun b cs hb=>?_),.slc _ _ _,g22,.inr ⟨g,cap,m,rfl,h33,rfl⟩⟩ (.inr ⟨g,cap,rfl,rfl,h33⟩)
  ·split at hr
   ·cases hr;exact .inr ⟨by assumption,h2,hgs⟩
   ·exact .inl hr
  ·simp only [zbz] at hb
   by_cases h:3=b
   ·subst h;simp at hb;subst hb
    exact ⟨g,(L++m).map iv64,_,h33,h3,by simpa using zGc (L++m)⟩
   ·rw [if_neg h] at hb;simp [lk] at hb
def zob:Ent Tryz.prog where
 id:=201
 g:=fun _ _=>true
 fn:=fun vs _=>match vs with
  | [x,y]=>match (dec x:Option Iv),(dec y:Option I64) with
   | some x,some y=>some (enc (zaZ x y))
   | _,_=>none
  | _=>none
 ok:=fun vs m v _ hf w0 ρ xs w hv hm=>by
  split at hf<;>try (cases hf;done)
  split at hf<;>try (cases hf;done)
  rename_i x y hx hy
  cases hf
  have e1:=Enc.dec_enc _ _ hx
  have e2:=Enc.dec_enc _ _ hy
  subst e1;subst e2
  exact (zHG x y hv hm.amb).mono fun v w' h=>⟨h.1 ρ,h.2⟩
end Go.Proofs.YtaoakfodkoifoaaGreat.Ev
namespace Go.Proofs.YtaoakfodkoifoaaGreat.Ev
open Go
theorem at_eq (n:I64):zbo n=zB n:=rfl
theorem zJD (x:Iv):zcT (zaH x)=zav (zaH x):=(zEg x).meet
theorem zJE (x:Iv):zcT (zaM x)=zav (zaM x):=(zEh x).meet
theorem zHn (x:Iv):zcT (zaK (zaH x))=zav (zaK (zaH x)):=(zEg x).neg.meet
theorem zHo (x:Iv):zcT (zaK (zaM x))=zav (zaK (zaM x)):=(zEh x).neg.meet
theorem ziI (n t:I64):zcJ n t=zaj n t:=by
 simp only [zcJ,zg3,zaj,zje,Tr.get,zrZ,zpr,zgM,sub_eq,ziP,at_eq,zNk,zOc,neg_eq,zJD,zJE,zHn,zHo]
theorem zGV (x:Iv) (t y4 y5:I64) (hk1:(k1 x).val<=4000):∀(n:Nat) (k:I64) (o:Iv),1<=n->(k1 x).val-k.val+1<n-> -5000<=k.val->
  ∃k',(Lf zgB n ⟨t,k,x.lo,x.hi,y4,y5,o.lo,o.hi⟩).opt=some ⟨t,k',x.lo,x.hi,y4,y5,(znD t (ziG x n k) o).lo,(znD t (ziG x n k) o).hi⟩:=by
 intro n
 induction n with
 | zero=>intro k o h;omega
 | succ n ih=>
  intro k o _ hn hlow
  have ek1:(Rng.w .i64 ((zY x.hi).val+1))=k1 x:=by unfold k1;rw [zgM]
  by_cases hk:k.val<=(k1 x).val
  ·have ev:(Rng.w .i64 (k.val+1)).val=k.val+1:=wi (by omega) (by omega)
   have ihk:=fun o=>ih (.w .i64 (k.val+1)) o (by omega) (by rw [ev];omega) (by rw [ev];omega)
   have hd:decide (k.val<=(k1 x).val)=true:=by simpa using hk
   simp only [Lf,zgB,ek1,hd,cond_true,Tr.bind,Tr.opt,ziG,zsJ,ziP]
   cases hov:zaR (zP k) x
   ·have hov':zaR (zP k) ⟨x.lo,x.hi⟩=false:=hov
    simp only [hov',Bool.not_false,cond_true,cond_false]
    exact ihk o
   ·have hov':zaR (zP k) ⟨x.lo,x.hi⟩=true:=hov
    simp only [hov',Bool.not_true,cond_false,cond_true,znD,znu,zlC,zbP]
    cases ((Rng.w .i64 (zbI .and .i64 (Rng.w .i64 (k.val+t.val)).val 3)).val==1)
    ·simp only [cond_false]
     cases ((Rng.w .i64 (zbI .and .i64 (Rng.w .i64 (k.val+t.val)).val 3)).val==3)
     ·exact ihk o
     ·exact ihk _
    ·exact ihk _
  ·have hd:decide (k.val<=(k1 x).val)=false:=by simpa using hk
   refine ⟨k,?_⟩
   simp only [Lf,zgB,ek1,hd,cond_false,Tr.bind,Tr.opt,ziG,znD]
theorem zLV (x:Iv) (t:I64):(znw x t).opt=some (zaZ x t):=by
 have hb:=k_bd x
 simp only [znw,Tr.opt,zaZ,zv0]
 cases zb7 x
 ·rfl
 simp only [Bool.not_true,cond_false]
 have ek0:(Rng.w .i64 ((zY x.lo).val-1))=k0 x:=by unfold k0;rw [zgM]
 have eo:zN (zaj x.lo t) (zaj x.hi t)=o0 x t:=by unfold o0;rw [zlC,ziI,ziI]
 rw [ek0,eo]
 obtain ⟨k',h⟩:=zGV x t ⟨0,rfl⟩ ⟨0,rfl⟩ (by omega) 1000 (k0 x) (o0 x t) (by decide) (by omega) (by omega)
 have g:zlE ⟨t,k0 x,x.lo,x.hi,⟨0,rfl⟩,⟨0,rfl⟩,(o0 x t).lo,(o0 x t).hi⟩=true:=by unfold zlE;rw [h];rfl
 have l:zo3 ⟨t,k0 x,x.lo,x.hi,⟨0,rfl⟩,⟨0,rfl⟩,(o0 x t).lo,(o0 x t).hi⟩=_:=Tr.zai h
 rw [g,l];rfl
theorem zsK (x:Iv) (t:I64):zaZ x t=zgP x t:=(Tr.zai (zLV x t)).symm
end Go.Proofs.YtaoakfodkoifoaaGreat.Ev
