/- The law FnOmega gives true, whatever comes in; each argument reads behind the call as it read before. No conditions. (One of the texts of its proof, put together by a program of this session.) -/
import Derived.Test.YtaoakfodkoifoaaGreatZEA
set_option linter.unusedSectionVars false
set_option linter.unusedSimpArgs false
set_option linter.unusedVariables false
namespace Go.Proofs.YtaoakfodkoifoaaGreat.Ev
open Go Go.RowKit
variable [Amb]
section
variable {P:Program}
theorem zI9 {A B:Type} {op:BinOp} {k:IntKind} {mk:Rng k->V} {x:Rng k} {n:Int} {K:V->Option A} {r:A} (h:shft op mk x n K=some r):∃v,(∀K':V->Option B,shft op mk x n K'=K' v)/\K v=some r:=by
 unfold shft at h
 split at h<;>first|(cases h;done)|exact ⟨_,fun K'=>rfl,h⟩
theorem zwj {A B:Type} {op:BinOp} {k:IntKind} {mk:Rng k->V} {x y:Rng k} {K:V->Option A} {r:A} (h:arith op mk x y K=some r):∃v,(∀K':V->Option B,arith op mk x y K'=K' v)/\K v=some r:=by
 unfold arith at h
 simp only [Bool.cond_eq_ite] at h
 split at h<;>try (cases h;done)
 all_goals first|exact ⟨_,fun K'=>rfl,h⟩|(split at h<;>first|(cases h;done)|(rename_i hc;exact ⟨_,fun K'=>by simp [arith,hc],h⟩))
theorem zKk {A B:Type} {T:List (TyE P)} {op:BinOp} {xt:Nat} {a b:V} {K:V->Option A} {r:A} (h:bink T op xt a b K=some r):∃v,(∀K':V->Option B,bink T op xt a b K'=K' v)/\K v=some r:=by
 unfold bink at h
 simp only [Bool.cond_eq_ite] at h
 split at h
 ·rename_i hs
  split at h<;>try (cases h;done)
  rename_i y neg hc
  split at h<;>try (cases h;done)
  rename_i hn
  split at h<;>try (cases h;done)
  all_goals
   obtain ⟨v,h1,h2⟩:=zI9 (B:=B) h
   exact ⟨v,fun K'=>by simp only [bink,Bool.cond_eq_ite,hs,hc,hn,if_true,if_false,h1];simp,h2⟩
 ·rename_i hs
  split at h<;>try (cases h;done)
  ·obtain ⟨v,h1,h2⟩:=zwj (B:=B) h
   exact ⟨v,fun K'=>by simp only [bink,Bool.cond_eq_ite,hs,if_false,h1];simp,h2⟩
  ·obtain ⟨v,h1,h2⟩:=zwj (B:=B) h
   exact ⟨v,fun K'=>by simp only [bink,Bool.cond_eq_ite,hs,if_false,h1];simp,h2⟩
  ·obtain ⟨v,h1,h2⟩:=zwj (B:=B) h
   exact ⟨v,fun K'=>by simp only [bink,Bool.cond_eq_ite,hs,if_false,h1];simp,h2⟩
  ·split at h<;>try (cases h;done)
   rename_i e he
   split at h<;>try (cases h;done)
   all_goals
    rename_i hk
    exact ⟨_,fun K'=>by simp [bink,hs,he,hk],h⟩
  ·split at h<;>try (cases h;done)
   rename_i e he
   split at h<;>try (cases h;done)
   rename_i hc
   split at h<;>try (cases h;done)
   rename_i fs hk
   split at h<;>try (cases h;done)
   rename_i q hq
   split at h<;>try (cases h;done)
   all_goals exact ⟨_,fun K'=>by simp [bink,hs,he,hc,hk,hq],h⟩
theorem zLW {A B:Type} {T:List (TyE P)} {ca:zmX A} {cb:zmX B} (hc:∀f vs m K r,ca f vs m K=some r->∃v m',(∀K':V->Mem->Option B,cb f vs m K'=K' v m')/\K v m'=some r) {s:St} {o:Oper}
  {K:V->Mem->Option A} {r:A} (h:opk T ca s o K=some r):∃v m,(∀K':V->Mem->Option B,opk T cb s o K'=K' v m)/\K v m=some r:=by
 unfold opk at h ⊢
 cases hop:o.op<;>simp only [hop,Bool.cond_eq_ite] at h ⊢ <;> try (cases h;done)
 case binOp op xt x y yt=>
  split at h<;>try (cases h;done)
  rename_i a b ha hb
  obtain ⟨v,h1,h2⟩:=zKk (B:=B) h
  exact ⟨v,s.mm,fun K'=>by simp only [ha,hb,h1],h2⟩
 case call c=>
  split at h<;>try (cases h;done)
  ·rename_i f hcal
   split at h<;>try (cases h;done)
   rename_i g caps vs hf hvs
   obtain ⟨v,m',h1,h2⟩:=hc _ _ _ _ _ h
   exact ⟨v,m',fun K'=>by simp only [hcal,hf,hvs,h1],h2⟩
  all_goals
   rename_i hcal
   repeat' (split at h<;>try (cases h;done))
   all_goals exact ⟨_,_,fun K'=>by simp only [*],h⟩
 case makeFunc fn first caps=>
  cases fn<;>simp only at h ⊢ <;> try (cases h;done)
  split at h<;>try (cases h;done)
  rename_i hs
  split at h<;>try (cases h;done)
  rename_i vs hv
  exact ⟨_,_,fun K'=>by simp [hs,hv],h⟩
 all_goals
  repeat' (split at h<;>try (cases h;done))
  all_goals exact ⟨_,_,fun K'=>by simp [*],h⟩
def zIp {A:Type} (Es:List (Ent P)):zmX A:=fun f vs m K=>match entf Es f with
 | some e=>bif e.g vs (zvK m.blks vs) then match e.fn vs (zvK m.blks vs) with
   | some v=>K v m
   | none=>none
  else none
 | none=>none
theorem zIo {A B:Type} (Es:List (Ent P)) (f vs m) (K:V->Mem->Option A) (r:A) (h:zIp Es f vs m K=some r):∃v m',(∀K':V->Mem->Option B,zIp Es f vs m K'=K' v m')/\K v m'=some r:=by
 unfold zIp at h
 split at h<;>try (cases h;done)
 rename_i e he
 cases hg:e.g vs (zvK m.blks vs) with
 | false=>simp [hg] at h
 | true=>
  simp only [hg,cond_true] at h
  split at h<;>try (cases h;done)
  rename_i v hv
  exact ⟨v,m,fun K'=>by simp [zIp,he,hg,hv],h⟩
def zMC {A:Type} (T:List (TyE P)) (Es:List (Ent P)) (s:St) (o:Oper) (K:Eff->Option A):Option A:=
 match o.op with
 | .alloc t=>match tyf T t with
  | some e=>K (.new (0,e.zero))
  | none=>none
 | .box _ x=>match s.ev x with
  | some v=>K (.new (0,v.cells))
  | none=>none
 | .store t x y=>match tyf T t,s.ev x,s.ev y with
  | some e,some (.ptr b off),some v=>bif Nat.beq v.cells.length e.size&&Nat.blt b s.mm.nxt then match s.mm.store b off v.cells with
    | some m=>match lk m.blks b with
     | some cs=>K (.st b cs)
     | none=>none
    | none=>none
   else none
  | _,_,_=>none
 | .buildSlice t n ps=>match tyf T t,s.evps ps.toList with
  | some e,some vs=>match e.kd with
   | .slice et es=>match tyf T et with
    | some ee=>bif Nat.beq ee.size es&&Nat.beq ee.zero.length es&&Nat.ble (n*es) 1000 && !Nat.beq (n*es) 0 then
      match zzQ (fun i=>some (i*es,es)) ((List.range (n*es)).map fun i=>ee.zero.getD (i%es) .nils) vs with
      | some cs=>K (.new (n+1,cs))
      | none=>none
     else none
    | none=>none
   | _=>none
  | _,_=>none
 | _=>opk T (zIp Es) s o (fun v _=>K (.val v (rdOf s o)))
theorem zH7 {A:Type} {T:List (TyE P)} {Es:List (Ent P)} {s:St} {o:Oper} {K:Eff->Option A} {r:A} (h:zMC T Es s o K=some r):∃e,zBE T Es s o=some e/\K e=some r:=by
 unfold zMC at h
 unfold zBE
 split at h<;>rename_i hop<;>try (cases h;done)
 ·simp only [hop]
  split at h<;>try (cases h;done)
  rename_i e he
  exact ⟨_,by simp only [he],h⟩
 ·simp only [hop]
  split at h<;>try (cases h;done)
  rename_i v hv
  exact ⟨_,by simp only [hv],h⟩
 ·simp only [hop]
  split at h<;>try (cases h;done)
  rename_i e b off v he hx hy
  cases hb:(Nat.beq v.cells.length e.size&&Nat.blt b s.mm.nxt) with
  | false=>simp [hb] at h
  | true=>
   simp only [hb,cond_true] at h
   split at h<;>try (cases h;done)
   rename_i m hm
   split at h<;>try (cases h;done)
   rename_i cs hcs
   exact ⟨_,by simp only [he,hx,hy,hb,cond_true,hm,hcs],h⟩
 ·rename_i t n ps
  simp only [hop]
  split at h<;>try (cases h;done)
  rename_i e vs he hvs
  split at h<;>try (cases h;done)
  rename_i et es hkd
  split at h<;>try (cases h;done)
  rename_i ee hee
  cases hb:(Nat.beq ee.size es&&Nat.beq ee.zero.length es&&Nat.ble (n*es) 1000 && !Nat.beq (n*es) 0) with
  | false=>rw [hb] at h;cases h
  | true=>
   rw [hb] at h
   simp only [cond_true] at h
   split at h<;>try (cases h;done)
   rename_i cs hcs
   exact ⟨_,by simp only [he,hvs,hkd,hee,hb,cond_true,hcs],h⟩
 ·obtain ⟨v,m,k1,k2⟩:=zLW (B:=V) (cb:=zF0 Es) (fun f vs m K r h=>zIo (B:=V) Es f vs m K r h) h
  refine ⟨.val v (rdOf s o),?_,k2⟩
  split<;>rename_i hx<;>first|(simp_all;done)|rw [k1]
def effK {A:Type} (T:List (TyE P)) (Es:List (Ent P)) (s:St) (o:Oper) (K:Eff->Option A):Option A:=match opg T s o with
 | some (g,v)=>bif g then K (.val v []) else none
 | none=>match mkOf Es o with
  | some (q,cs)=>bif Nat.beq q 1000001 then none else K (.new (q+1,cs))
  | none=>match zCZ Es s o with
   | some (g,cs)=>bif g then K (.new (1000002,cs)) else none
   | none=>zMC T Es s o K
theorem zzS {A:Type} {T:List (TyE P)} {Es:List (Ent P)} {s:St} {o:Oper} {K:Eff->Option A} {r:A} (h:effK T Es s o K=some r):∃e,zBF T Es s o=some e/\K e=some r:=by
 unfold effK at h
 unfold zBF
 split at h
 ·rename_i g v hg
  cases hgt:g with
  | false=>rw [hgt] at h;cases h
  | true=>
   rw [hgt] at h
   exact ⟨.val v [],by simp only [hg,hgt,cond_true],h⟩
 ·rename_i hg
  split at h
  ·rename_i q cs hmk
   cases hq:Nat.beq q 1000001 with
   | true=>simp [hq] at h
   | false=>
    simp only [hq,cond_false] at h
    exact ⟨.new (q+1,cs),by simp only [hg,hmk,hq,cond_false],h⟩
  ·rename_i hmk
   split at h
   ·rename_i g cs hmp
    cases hgt:g with
    | false=>rw [hgt] at h;cases h
    | true=>
     rw [hgt] at h
     exact ⟨.new (1000002,cs),by simp only [hg,hmk,hmp,hgt,cond_true],h⟩
   ·rename_i hmp
    obtain ⟨e,h1,h2⟩:=zH7 h
    exact ⟨e,by simp only [hg,hmk,hmp,h1],h2⟩
def zrS {A:Type} (R:List Oper) (T:List (TyE P)) (Es:List (Ent P)):List Oper->St->(List Eff->St->Option A)->Option A
 | [],s,K=>K [] s
 | o::rest,s,K=>bif s.fits o.dst then match o.guard with
  | none=>effK T Es s o fun e=>zrS R T Es rest (s.eff o.dst e) fun es s'=>K (e::es) s'
  | some (j,want)=>match zu0 R j with
   | some d=>match lk s.tm d with
    | some (.bool b)=>bif b then
      (match want with
       | true=>effK T Es ⟨(d,.bool true)::s.tm,s.n,s.mm⟩ o fun e=>zrS R T Es rest ((St.mk ((d,.bool true)::s.tm) s.n s.mm).eff o.dst e) fun es s'=>K (e::es) s'
       | false=>zrS R T Es rest ((St.mk ((d,.bool true)::s.tm) s.n s.mm).eff o.dst (.val (.tup []) [])) fun es s'=>K (.val (.tup []) []::es) s')
     else
      (match want with
       | false=>effK T Es ⟨(d,.bool false)::s.tm,s.n,s.mm⟩ o fun e=>zrS R T Es rest ((St.mk ((d,.bool false)::s.tm) s.n s.mm).eff o.dst e) fun es s'=>K (e::es) s'
       | true=>zrS R T Es rest ((St.mk ((d,.bool false)::s.tm) s.n s.mm).eff o.dst (.val (.tup []) [])) fun es s'=>K (.val (.tup []) []::es) s')
    | some (.tup [])=>zrS R T Es rest (s.eff o.dst (.val (.tup []) [])) fun es s'=>K (.val (.tup []) []::es) s'
    | _=>none
   | none=>none
 else none
theorem zoD {A:Type} {R:List Oper} {T:List (TyE P)} {Es:List (Ent P)}:∀ {os:List Oper} {s:St} {K:List Eff->St->Option A} {r:A},zrS R T Es os s K=some r->∃es s',zpb R T Es os s=some (es,s')/\K es s'=some r
 | [],s,K,r,h=>⟨[],s,rfl,h⟩
 | o::rest,s,K,r,h=>by
  simp only [zrS] at h
  cases hf:s.fits o.dst with
  | false=>simp [hf] at h
  | true=>
   simp only [hf,cond_true] at h
   split at h
   ·rename_i hg
    obtain ⟨e,h1,h2⟩:=zzS h
    obtain ⟨es,s',h3,h4⟩:=zoD h2
    have hk:s.kn R o=s:=by simp [St.kn,hg]
    have hw:zwE R s o=some true:=by simp [zwE,hg]
    exact ⟨e::es,s',by simp only [zpb,hf,cond_true,hk,effG,hw,h1,h3],h4⟩
   ·rename_i j want hg
    split at h<;>try (cases h;done)
    rename_i d hs
    split at h<;>try (cases h;done)
    ·rename_i b hl
     have hk:s.kn R o=⟨(d,.bool b)::s.tm,s.n,s.mm⟩:=by simp [St.kn,hg,hs,hl]
     have hw:zwE R ⟨(d,.bool b)::s.tm,s.n,s.mm⟩ o=some (b==want):=by simp [zwE,hg,hs,zbz]
     cases b with
     | true=>
      simp only [cond_true] at h
      cases want with
      | true=>
       dsimp only at h
       obtain ⟨e,h1,h2⟩:=zzS h
       obtain ⟨es,s',h3,h4⟩:=zoD h2
       exact ⟨e::es,s',by simp only [zpb,hf,cond_true,hk,effG,hw,beq_self_eq_true,h1,h3],h4⟩
      | false=>
       dsimp only at h
       obtain ⟨es,s',h3,h4⟩:=zoD h
       exact ⟨_::es,s',by simp only [zpb,hf,cond_true,hk,effG,hw,show (true==false)=false from rfl,h3],h4⟩
     | false=>
      simp only [cond_false] at h
      cases want with
      | false=>
       dsimp only at h
       obtain ⟨e,h1,h2⟩:=zzS h
       obtain ⟨es,s',h3,h4⟩:=zoD h2
       exact ⟨e::es,s',by simp only [zpb,hf,cond_true,hk,effG,hw,beq_self_eq_true,h1,h3],h4⟩
      | true=>
       dsimp only at h
       obtain ⟨es,s',h3,h4⟩:=zoD h
       exact ⟨_::es,s',by simp only [zpb,hf,cond_true,hk,effG,hw,show (false==true)=false from rfl,h3],h4⟩
    ·rename_i hl
     have hk:s.kn R o=s:=by simp [St.kn,hg,hs,hl]
     have hw:zwE R s o=some false:=by simp [zwE,hg,hs,hl]
     obtain ⟨es,s',h3,h4⟩:=zoD h
     exact ⟨_::es,s',by simp only [zpb,hf,cond_true,hk,effG,hw,h3],h4⟩
def zIa {A:Type} (T:List (TyE P)) (Es:List (Ent P)) (ops:List Oper) (s:St) (K:St->Option A):Option A:=
 zrS ops T Es ops s fun es s'=>bif znZ ops 0 ops es then K s' else none
theorem zH9 {T:List (TyE P)} {Es:List (Ent P)} {w0:World} (hm:P.follows .mixedOrders=true) {A:Type}:zyp P w0 (zIa (A:=A) T Es):=by
 intro id ops s K r h
 refine zKb (T:=T) (Es:=Es) hm id ops s K r ?_
 unfold zIa at h
 obtain ⟨es,s',h1,h2⟩:=zoD h
 unfold zkm
 rw [h1]
 exact h2
end
end Go.Proofs.YtaoakfodkoifoaaGreat.Ev
/-
 A small evaluator for the program's code: typed functions as answers of calls.
-/
namespace Go.Proofs.YtaoakfodkoifoaaGreat.Ev
open Go Go.RowKit
variable [Amb]
mutual
def V.pf:V->Bool
 | .ptr _ _=>false
 | .slc _ _ _ _=>false
 | .agg cs=>V.pfs cs
 | .tup cs=>V.pfs cs
 | .fn _ cs=>V.pfs cs
 | _=>true
def V.pfs:List V->Bool
 | []=>true
 | v::vs=>V.pf v&&V.pfs vs
end
mutual
theorem VR.pf {ρ ρ':Nat->Option Nat} {v:V} {x:Value}:VR ρ v x->v.pf=true->VR ρ' v x
 | .bool b,_=> .bool b
 | .i64 n,_=> .i64 n
 | .u64 n,_=> .u64 n
 | .u8 n,_=> .u8 n
 | .str s,_=> .str s
 | .ptr _,h=>by simp [V.pf] at h
 | .slc _,h=>by simp [V.pf] at h
 | .arg k,_=> .arg k
 | .argp h,_=> .argp h
 | .nilp,_=> .nilp
 | .nils,_=> .nils
 | .nilf,_=> .nilf
 | .glob g o,_=> .glob g o
 | .gslc g o l c,_=> .gslc g o l c
 | .agg t,h=> .agg (VRs.pf t (by simpa [V.pf] using h))
 | .tup t,h=> .tup (VRs.pf t (by simpa [V.pf] using h))
 | .fn t,h=> .fn (VRs.pf t (by simpa [V.pf] using h))
theorem VRs.pf {ρ ρ':Nat->Option Nat} {vs:List V} {xs:List Value}:VRs ρ vs xs->V.pfs vs=true->VRs ρ' vs xs
 | .nil,_=> .nil
 | .cons h t,hp=>by
  simp only [V.pfs,Bool.and_eq_true] at hp
  exact .cons (VR.pf h hp.1) (VRs.pf t hp.2)
end
class Enc (α:Type) where
 enc:α->V
 dec:V->Option α
 dec_enc:∀v x,dec v=some x->v=enc x
 pf:∀x,(enc x).pf=true
abbrev enc {α:Type} [Enc α] (x:α):V:=Enc.enc x
abbrev dec {α:Type} [Enc α] (v:V):Option α:=Enc.dec v
instance:Enc Bool where
 enc:= .bool
 dec:=fun v=>match v with | .bool b=>some b|_=>none
 dec_enc:=fun v x h=>by cases v<;>simp at h;simp [h]
 pf:=fun _=>rfl
instance:Enc I64 where
 enc:= .i64
 dec:=fun v=>match v with | .i64 b=>some b|_=>none
 dec_enc:=fun v x h=>by cases v<;>simp at h;simp [h]
 pf:=fun _=>rfl
instance:Enc U64 where
 enc:= .u64
 dec:=fun v=>match v with | .u64 b=>some b|_=>none
 dec_enc:=fun v x h=>by cases v<;>simp at h;simp [h]
 pf:=fun _=>rfl
instance:Enc U8 where
 enc:= .u8
 dec:=fun v=>match v with | .u8 b=>some b|_=>none
 dec_enc:=fun v x h=>by cases v<;>simp at h;simp [h]
 pf:=fun _=>rfl
instance:Enc ByteArray where
 enc:= .str
 dec:=fun v=>match v with | .str b=>some b|_=>none
 dec_enc:=fun v x h=>by cases v<;>simp at h;simp [h]
 pf:=fun _=>rfl
structure T2 (α β:Type) where
 a:α
 b:β
structure T3 (α β γ:Type) where
 a:α
 b:β
 c:γ
structure T4 (α β γ δ:Type) where
 a:α
 b:β
 c:γ
 d:δ
instance {α β:Type} [Enc α] [Enc β]:Enc (T2 α β) where
 enc:=fun t=> .tup [enc t.a,enc t.b]
 dec:=fun v=>match v with
  | .tup [x,y]=>match dec x,dec y with
   | some a,some b=>some ⟨a,b⟩
   | _,_=>none
  | _=>none
 dec_enc:=fun v x h=>by
  split at h<;>try (cases h;done)
  split at h<;>try (cases h;done)
  rename_i h1 h2
  cases h
  rw [Enc.dec_enc _ _ h1,Enc.dec_enc _ _ h2]
 pf:=fun x=>by simp [V.pf,V.pfs,Enc.pf]
instance {α β γ:Type} [Enc α] [Enc β] [Enc γ]:Enc (T3 α β γ) where
 enc:=fun t=> .tup [enc t.a,enc t.b,enc t.c]
 dec:=fun v=>match v with
  | .tup [x,y,z]=>match dec x,dec y,dec z with
   | some a,some b,some c=>some ⟨a,b,c⟩
   | _,_,_=>none
  | _=>none
 dec_enc:=fun v x h=>by
  split at h<;>try (cases h;done)
  split at h<;>try (cases h;done)
  rename_i h1 h2 h3
  cases h
  rw [Enc.dec_enc _ _ h1,Enc.dec_enc _ _ h2,Enc.dec_enc _ _ h3]
 pf:=fun x=>by simp [V.pf,V.pfs,Enc.pf]
instance {α β γ δ:Type} [Enc α] [Enc β] [Enc γ] [Enc δ]:Enc (T4 α β γ δ) where
 enc:=fun t=> .tup [enc t.a,enc t.b,enc t.c,enc t.d]
 dec:=fun v=>match v with
  | .tup [x,y,z,u]=>match dec x,dec y,dec z,dec u with
   | some a,some b,some c,some d=>some ⟨a,b,c,d⟩
   | _,_,_,_=>none
  | _=>none
 dec_enc:=fun v x h=>by
  split at h<;>try (cases h;done)
  split at h<;>try (cases h;done)
  rename_i h1 h2 h3 h4
  cases h
  rw [Enc.dec_enc _ _ h1,Enc.dec_enc _ _ h2,Enc.dec_enc _ _ h3,Enc.dec_enc _ _ h4]
 pf:=fun x=>by simp [V.pf,V.pfs,Enc.pf]
class Flat (α:Type) where
 put:α->List V
 get:List V->Option (α×List V)
 get_put:∀vs x r,get vs=some (x,r)->vs=put x++r
 pf:∀x,V.pfs (put x)=true
instance:Flat I64 where
 put:=fun x=> [.i64 x]
 get:=fun vs=>match vs with | .i64 x::r=>some (x,r)|_=>none
 get_put:=fun vs x r h=>by split at h<;>cases h;rfl
 pf:=fun x=>rfl
instance:Flat U64 where
 put:=fun x=> [.u64 x]
 get:=fun vs=>match vs with | .u64 x::r=>some (x,r)|_=>none
 get_put:=fun vs x r h=>by split at h<;>cases h;rfl
 pf:=fun x=>rfl
instance:Flat Bool where
 put:=fun x=> [.bool x]
 get:=fun vs=>match vs with | .bool x::r=>some (x,r)|_=>none
 get_put:=fun vs x r h=>by split at h<;>cases h;rfl
 pf:=fun x=>rfl
structure Iv where
 lo:I64
 hi:I64
structure Vec where
 x:Iv
 y:Iv
 z:Iv
structure Wide where
 hi:I64
 lo:U64
structure zaA where
 lat:I64
 lon:I64
structure Place where
 pt:zaA
 h:I64
structure Ell where
 a:I64
 num:I64
 den:I64
structure Proj where
 kind:I64
 lat0:I64
 lon0:I64
 lat1:I64
 lat2:I64
structure zBU where
 x:Iv
 y:Iv
instance:Flat Iv where
 put:=fun v=> [.i64 v.lo,.i64 v.hi]
 get:=fun vs=>match vs with | .i64 a :: .i64 b::r=>some (⟨a,b⟩,r)|_=>none
 get_put:=fun vs x r h=>by split at h<;>cases h;rfl
 pf:=fun x=>rfl
instance:Flat Wide where
 put:=fun v=> [.i64 v.hi,.u64 v.lo]
 get:=fun vs=>match vs with | .i64 a :: .u64 b::r=>some (⟨a,b⟩,r)|_=>none
 get_put:=fun vs x r h=>by split at h<;>cases h;rfl
 pf:=fun x=>rfl
instance:Flat zaA where
 put:=fun v=> [.i64 v.lat,.i64 v.lon]
 get:=fun vs=>match vs with | .i64 a :: .i64 b::r=>some (⟨a,b⟩,r)|_=>none
 get_put:=fun vs x r h=>by split at h<;>cases h;rfl
 pf:=fun x=>rfl
instance:Flat Place where
 put:=fun v=> [.i64 v.pt.lat,.i64 v.pt.lon,.i64 v.h]
 get:=fun vs=>match vs with | .i64 a :: .i64 b :: .i64 c::r=>some (⟨⟨a,b⟩,c⟩,r)|_=>none
 get_put:=fun vs x r h=>by split at h<;>cases h;rfl
 pf:=fun x=>rfl
instance:Flat Ell where
 put:=fun v=> [.i64 v.a,.i64 v.num,.i64 v.den]
 get:=fun vs=>match vs with | .i64 a :: .i64 b :: .i64 c::r=>some (⟨a,b,c⟩,r)|_=>none
 get_put:=fun vs x r h=>by split at h<;>cases h;rfl
 pf:=fun x=>rfl
instance:Flat Proj where
 put:=fun v=> [.i64 v.kind,.i64 v.lat0,.i64 v.lon0,.i64 v.lat1,.i64 v.lat2]
 get:=fun vs=>match vs with | .i64 a :: .i64 b :: .i64 c :: .i64 d :: .i64 e::r=>some (⟨a,b,c,d,e⟩,r)|_=>none
 get_put:=fun vs x r h=>by split at h<;>cases h;rfl
 pf:=fun x=>rfl
instance:Flat Vec where
 put:=fun v=> [.i64 v.x.lo,.i64 v.x.hi,.i64 v.y.lo,.i64 v.y.hi,.i64 v.z.lo,.i64 v.z.hi]
 get:=fun vs=>match vs with | .i64 a :: .i64 b :: .i64 c :: .i64 d :: .i64 e :: .i64 f::r=>some (⟨⟨a,b⟩,⟨c,d⟩,⟨e,f⟩⟩,r)|_=>none
 get_put:=fun vs x r h=>by split at h<;>cases h;rfl
 pf:=fun x=>rfl
instance:Flat zBU where
 put:=fun v=> [.i64 v.x.lo,.i64 v.x.hi,.i64 v.y.lo,.i64 v.y.hi]
 get:=fun vs=>match vs with | .i64 a :: .i64 b :: .i64 c :: .i64 d::r=>some (⟨⟨a,b⟩,⟨c,d⟩⟩,r)|_=>none
 get_put:=fun vs x r h=>by split at h<;>cases h;rfl
 pf:=fun x=>rfl
abbrev Flat.toEnc (α:Type) [Flat α]:Enc α where
 enc:=fun x=> .agg (Flat.put x)
 dec:=fun v=>match v with
  | .agg cs=>match Flat.get (α:=α) cs with
   | some (x,[])=>some x
   | _=>none
  | _=>none
 dec_enc:=fun v x h=>by
  split at h<;>try (cases h;done)
  split at h<;>try (cases h;done)
  rename_i h1
  cases h
  have:=Flat.get_put _ _ _ h1
  rw [this];simp
 pf:=fun x=>by simp [V.pf,Flat.pf]
instance:Enc Iv:=Flat.toEnc Iv
instance:Enc Wide:=Flat.toEnc Wide
instance:Enc zaA:=Flat.toEnc zaA
instance:Enc Place:=Flat.toEnc Place
instance:Enc Ell:=Flat.toEnc Ell
instance:Enc Proj:=Flat.toEnc Proj
instance:Enc Vec:=Flat.toEnc Vec
instance:Enc zBU:=Flat.toEnc zBU
structure Tb (P:Program) where
 T:List (TyE P)
 mix:P.follows .mixedOrders=true
 Es:List (Ent P):= []
 Bs:List (Bod P):= []
 N:Nat:=70
 d:Nat:=0
section
variable {P:Program}
def Tb.drw (t:Tb P) {A:Type}:List Oper->St->(St->Option A)->Option A:=zIa t.T t.Es
theorem Tb.zdO (t:Tb P) {A:Type} (w0:World):zyp P w0 (t.drw (A:=A)):=zH9 t.mix
def Tb.run (t:Tb P) (b:Bod P) (vs:List V) (γ:Type) [Enc γ]:Option γ:=
 runk t.T (zoH t.T (fun _=>t.drw) t.Es t.Bs t.N t.d) t.drw t.N b vs ⟨[],0,0⟩ fun v _=>dec v
def Am (w:World):Prop:=∀w',Below w.heap.size w w'->Amb.I w'/\Inv0 w'
theorem MRel.amb {w0 w:World} {ρ:Nat->Option Nat} {m:Mem} (h:MRel w0 ρ m w):Am w:=fun w' hw=>h.am w' (h.bel.trans (hw.mono h.bel.size))
theorem MRel.empty {w:World} (ha:Am w):MRel w (fun _=>none) ⟨[],0,0⟩ w:=
 ⟨fun b cs h=>by simp [lk] at h,fun b b' r h=>by simp at h,fun _ _=>rfl,fun b r h=>by simp at h,fun b r _ h=>by simp at h,Below.refl _ _,Nat.le_refl _,ha⟩
theorem Tb.run_sound {t:Tb P} {b:Bod P} {vs:List V} {γ:Type} [Enc γ] {y:γ} (h:t.run b vs γ=some y) {ρ:Nat->Option Nat} {xs:List Value} {w:World}
  (hv:VRs ρ vs xs) (hp:V.pfs vs=true) (ha:Am w):
  Calls P b.id xs.toArray w fun e w'=>∃x,e= .returned x/\(∀ρ,VR ρ (enc y) x)/\Below w.heap.size w w':=by
 refine (zp3 (w0:=w) (zh7 (fun _ _=>t.zdO w) t.d) (t.zdO w) h (ρ:=fun _=>none) (hv.pf hp) (MRel.empty ha)).mono fun e w' he=>?_
 obtain ⟨v,m',ρ',x,rfl,h1,h2,h3,h4⟩:=he
 have:=Enc.dec_enc _ _ h4
 subst this
 exact ⟨x,rfl,fun ρ=>h2.pf (Enc.pf y),h3.bel⟩
theorem Tb.run_does {t:Tb P} {b:Bod P} {vs:List V} {γ:Type} [Enc γ] {y:γ} (h:t.run b vs γ=some y) {ρ:Nat->Option Nat} {xs:List Value} {w:World}
  (hv:VRs ρ vs xs) (hp:V.pfs vs=true) (ha:Am w):Does P b.id xs.toArray w fun x w'=>VR ρ (enc y) x/\Below w.heap.size w w':=by
 intro o a next Q hn
 rw [zfv,Oper.upon_enter]
 refine (Tb.run_sound h hv hp ha).mono fun e w' he=>?_
 obtain ⟨x,rfl,h1,h2⟩:=he
 exact hn x w' ⟨h1 ρ,h2⟩
def Ent.of0 {γ:Type} [Enc γ] (t:Tb P) (b:Bod P) (F:γ) (h:t.run b [] γ=some F):Ent P where
 id:=b.id
 g:=fun _ _=>true
 fn:=fun vs _=>match vs with
  | []=>some (enc F)
  | _=>none
 ok:=fun vs m v _ hf w0 ρ xs w hv hm=>by
  split at hf<;>cases hf
  exact Tb.run_does h hv rfl hm.amb
def Ent.of1 {α γ:Type} [Enc α] [Enc γ] (t:Tb P) (b:Bod P) (G:α->Bool) (F:α->γ) (h:∀x,G x=true->t.run b [enc x] γ=some (F x)):Ent P where
 id:=b.id
 g:=fun vs _=>match vs with
  | [x]=>match (dec x:Option α) with
   | some x=>G x
   | _=>false
  | _=>false
 fn:=fun vs _=>match vs with
  | [x]=>match (dec x:Option α) with
   | some x=>some (enc (F x))
   | _=>none
  | _=>none
 ok:=fun vs m v hg hf w0 ρ xs w hv hm=>by
  split at hf<;>try (cases hf;done)
  split at hf<;>try (cases hf;done)
  rename_i x hx
  cases hf
  simp only [hx] at hg
  have:=Enc.dec_enc _ _ hx
  subst this
  exact Tb.run_does (h x hg) hv (by simp [V.pfs,Enc.pf]) hm.amb
def Ent.of2 {α β γ:Type} [Enc α] [Enc β] [Enc γ] (t:Tb P) (b:Bod P) (G:α->β->Bool) (F:α->β->γ) (h:∀x y,G x y=true->t.run b [enc x,enc y] γ=some (F x y)):Ent P where
 id:=b.id
 g:=fun vs _=>match vs with
  | [x,y]=>match (dec x:Option α),(dec y:Option β) with
   | some x,some y=>G x y
   | _,_=>false
  | _=>false
 fn:=fun vs _=>match vs with
  | [x,y]=>match (dec x:Option α),(dec y:Option β) with
   | some x,some y=>some (enc (F x y))
   | _,_=>none
  | _=>none
 ok:=fun vs m v hg hf w0 ρ xs w hv hm=>by
  split at hf<;>try (cases hf;done)
  split at hf<;>try (cases hf;done)
  rename_i x y hx hy
  cases hf
  simp only [hx,hy] at hg
  have e1:=Enc.dec_enc _ _ hx
  have e2:=Enc.dec_enc _ _ hy
  subst e1;subst e2
  exact Tb.run_does (h x y hg) hv (by simp [V.pfs,Enc.pf]) hm.amb
def Ent.of3 {α β δ γ:Type} [Enc α] [Enc β] [Enc δ] [Enc γ] (t:Tb P) (b:Bod P) (G:α->β->δ->Bool) (F:α->β->δ->γ)
  (h:∀x y z,G x y z=true->t.run b [enc x,enc y,enc z] γ=some (F x y z)):Ent P where
 id:=b.id
 g:=fun vs _=>match vs with
  | [x,y,z]=>match (dec x:Option α),(dec y:Option β),(dec z:Option δ) with
   | some x,some y,some z=>G x y z
   | _,_,_=>false
  | _=>false
 fn:=fun vs _=>match vs with
  | [x,y,z]=>match (dec x:Option α),(dec y:Option β),(dec z:Option δ) with
   | some x,some y,some z=>some (enc (F x y z))
   | _,_,_=>none
  | _=>none
 ok:=fun vs m v hg hf w0 ρ xs w hv hm=>by
  split at hf<;>try (cases hf;done)
  split at hf<;>try (cases hf;done)
  rename_i x y z hx hy hz
  cases hf
  simp only [hx,hy,hz] at hg
  have e1:=Enc.dec_enc _ _ hx
  have e2:=Enc.dec_enc _ _ hy
  have e3:=Enc.dec_enc _ _ hz
  subst e1;subst e2;subst e3
  exact Tb.run_does (h x y z hg) hv (by simp [V.pfs,Enc.pf]) hm.amb
def Ent.of4 {α β δ ε γ:Type} [Enc α] [Enc β] [Enc δ] [Enc ε] [Enc γ] (t:Tb P) (b:Bod P) (G:α->β->δ->ε->Bool) (F:α->β->δ->ε->γ)
  (h:∀x y z u,G x y z u=true->t.run b [enc x,enc y,enc z,enc u] γ=some (F x y z u)):Ent P where
 id:=b.id
 g:=fun vs _=>match vs with
  | [x,y,z,u]=>match (dec x:Option α),(dec y:Option β),(dec z:Option δ),(dec u:Option ε) with
   | some x,some y,some z,some u=>G x y z u
   | _,_,_,_=>false
  | _=>false
 fn:=fun vs _=>match vs with
  | [x,y,z,u]=>match (dec x:Option α),(dec y:Option β),(dec z:Option δ),(dec u:Option ε) with
   | some x,some y,some z,some u=>some (enc (F x y z u))
   | _,_,_,_=>none
  | _=>none
 ok:=fun vs m v hg hf w0 ρ xs w hv hm=>by
  split at hf<;>try (cases hf;done)
  split at hf<;>try (cases hf;done)
  rename_i x y z u hx hy hz hu
  cases hf
  simp only [hx,hy,hz,hu] at hg
  have e1:=Enc.dec_enc _ _ hx
  have e2:=Enc.dec_enc _ _ hy
  have e3:=Enc.dec_enc _ _ hz
  have e4:=Enc.dec_enc _ _ hu
  subst e1;subst e2;subst e3;subst e4
  exact Tb.run_does (h x y z u hg) hv (by simp [V.pfs,Enc.pf]) hm.amb
theorem zFU {f:Nat} {xs:Array Value} {w:World} {x:Value} {R:Value->World->Prop} (h:(callFunc f xs).run P w= .ok (.value x) w) (hr:R x w):Does P f xs w R:=
 fun o a next Q hn=>by rw [h];exact hn x w hr
end
end Go.Proofs.YtaoakfodkoifoaaGreat.Ev
/-
 A small evaluator for the program's code: trees of branches;loops of any number of rounds.
-/
namespace Go.Proofs.YtaoakfodkoifoaaGreat.Ev
open Go Go.RowKit
variable [Amb]
inductive Tr (γ:Type) where
 | leaf (x:γ)
 | br (c:Bool) (a b:Tr γ)
 | bad
namespace Tr
def opt {γ:Type}:Tr γ->Option γ
 | leaf x=>some x
 | br c a b=>bif c then a.opt else b.opt
 | bad=>none
def get {γ:Type} [Inhabited γ]:Tr γ->γ
 | leaf x=>x
 | br c a b=>bif c then a.get else b.get
 | bad=>default
def tot {γ:Type}:Tr γ->Bool
 | leaf _=>true
 | br _ a b=>a.tot&&b.tot
 | bad=>false
theorem zX {γ:Type} [Inhabited γ] {t:Tr γ} (h:t.tot=true):t.opt=some t.get:=by
 induction t with
 | leaf x=>rfl
 | br c a b iha ihb=>
  simp only [tot,Bool.and_eq_true] at h
  cases c
  ·exact ihb h.2
  ·exact iha h.1
 | bad=>cases h
theorem zai {γ:Type} [Inhabited γ] {t:Tr γ} {x:γ} (h:t.opt=some x):t.get=x:=by
 induction t with
 | leaf y=>simpa [opt,get] using h
 | br c a b iha ihb=>cases c<;>simp only [opt,get,cond_true,cond_false] at h ⊢ <;> first|exact iha h|exact ihb h
 | bad=>cases h
theorem get_some {γ:Type} [Inhabited γ] {t:Tr γ} (h:t.opt.isSome=true):t.opt=some t.get:=by
 cases ho:t.opt with
 | none=>rw [ho] at h;cases h
 | some x=>rw [zai ho]
def fold {γ A:Type} (k:γ->Option A):Tr γ->Option A
 | leaf x=>k x
 | br c a b=>bif c then a.fold k else b.fold k
 | bad=>none
def bind {γ δ:Type} (k:γ->Tr δ):Tr γ->Tr δ
 | leaf x=>k x
 | br c a b=> .br c (a.bind k) (b.bind k)
 | bad=>bad
theorem zno {γ δ:Type} (k:γ->Tr δ) (t:Tr γ):(t.bind k).opt=match t.opt with
  | some x=>(k x).opt
  | none=>none:=by
 induction t with
 | leaf x=>rfl
 | br c a b iha ihb=>cases c<;>simp only [bind,opt,cond_true,cond_false,iha,ihb]
 | bad=>rfl
theorem zEG {γ A:Type} (k:γ->Option A) (t:Tr γ):t.fold k=match t.opt with
  | some x=>k x
  | none=>none:=by
 induction t with
 | leaf x=>rfl
 | br c a b iha ihb=>cases c<;>simp only [fold,opt,cond_true,cond_false,iha,ihb]
 | bad=>rfl
end Tr
instance {k:IntKind}:Inhabited (Rng k):=⟨.w k 0⟩
instance:Inhabited Iv:=⟨⟨default,default⟩⟩
instance:Inhabited Wide:=⟨⟨default,default⟩⟩
instance:Inhabited Vec:=⟨⟨default,default,default⟩⟩
instance:Inhabited zaA:=⟨⟨default,default⟩⟩
instance:Inhabited Place:=⟨⟨default,default⟩⟩
instance:Inhabited Ell:=⟨⟨default,default,default⟩⟩
instance:Inhabited Proj:=⟨⟨default,default,default,default,default⟩⟩
instance:Inhabited zBU:=⟨⟨default,default⟩⟩
instance {α β:Type} [Inhabited α] [Inhabited β]:Inhabited (T2 α β):=⟨⟨default,default⟩⟩
instance {α β γ:Type} [Inhabited α] [Inhabited β] [Inhabited γ]:Inhabited (T3 α β γ):=⟨⟨default,default,default⟩⟩
instance {α β γ δ:Type} [Inhabited α] [Inhabited β] [Inhabited γ] [Inhabited δ]:Inhabited (T4 α β γ δ):=⟨⟨default,default,default,default⟩⟩
mutual
def V.bel (n:Nat):V->Bool
 | .ptr b _=>Nat.blt b n
 | .slc b _ _ _=>Nat.blt b n
 | .agg cs=>V.bels n cs
 | .tup cs=>V.bels n cs
 | .fn _ cs=>V.bels n cs
 | _=>true
def V.bels (n:Nat):List V->Bool
 | []=>true
 | v::vs=>V.bel n v&&V.bels n vs
end
def cutR (n:Nat) (ρ:Nat->Option Nat):Nat->Option Nat:=fun b=>if b<n then ρ b else none
mutual
theorem VR.bel {n:Nat} {ρ:Nat->Option Nat} {v:V} {x:Value}:VR ρ v x->v.bel n=true->VR (cutR n ρ) v x
 | .bool b,_=> .bool b
 | .i64 n,_=> .i64 n
 | .u64 n,_=> .u64 n
 | .u8 n,_=> .u8 n
 | .str s,_=> .str s
 | .ptr h,hb=> .ptr (by simp [V.bel] at hb;simp [cutR,hb,h])
 | .slc h,hb=> .slc (by simp [V.bel] at hb;simp [cutR,hb,h])
 | .arg k,_=> .arg k
 | .argp h,_=> .argp h
 | .nilp,_=> .nilp
 | .nils,_=> .nils
 | .nilf,_=> .nilf
 | .glob g o,_=> .glob g o
 | .gslc g o l c,_=> .gslc g o l c
 | .agg t,h=> .agg (VRs.bel t (by simpa [V.bel] using h))
 | .tup t,h=> .tup (VRs.bel t (by simpa [V.bel] using h))
 | .fn t,h=> .fn (VRs.bel t (by simpa [V.bel] using h))
theorem VRs.bel {n:Nat} {ρ:Nat->Option Nat} {vs:List V} {xs:List Value}:VRs ρ vs xs->V.bels n vs=true->VRs (cutR n ρ) vs xs
 | .nil,_=> .nil
 | .cons h t,hp=>by
  simp only [V.bels,Bool.and_eq_true] at hp
  exact .cons (VR.bel h hp.1) (VRs.bel t hp.2)
end
def zGR (n:Nat) (tm:List (Nat×V)):List Nat->Option (List (Nat×V))
 | []=>some []
 | t::ts=>match lk tm t,zGR n tm ts with
  | some v,some r=>bif V.bel n v then some ((t,v)::r) else none
  | _,_=>none
def zGS (n:Nat) (bs:List (Nat×List V)):List Nat->Option (List (Nat×List V))
 | []=>some []
 | t::ts=>match lk bs t,zGS n bs ts with
  | some v,some r=>bif V.bels n v then some ((t,v)::r) else none
  | _,_=>none
def canon (sl bl:List Nat) (nx:Nat) (s:St):Option St:=
 match zGR nx s.tm sl,zGS nx s.mm.blks bl with
 | some tm,some bs=>bif Nat.ble nx s.mm.nxt&&Nat.ble s.mm.lo nx then some ⟨tm,s.n,⟨bs,nx,s.mm.lo⟩⟩ else none
 | _,_=>none
theorem zD6 {n:Nat} {tm:List (Nat×V)}:∀ {sl:List Nat} {r:List (Nat×V)},zGR n tm sl=some r->∀t v,lk r t=some v->lk tm t=some v/\V.bel n v=true
 | [],r,h,t,v,hv=>by simp [zGR] at h;subst h;simp [lk] at hv
 | u::sl,r,h,t,v,hv=>by
  simp only [zGR] at h
  split at h<;>try (cases h;done)
  rename_i x r' h1 h2
  cases hb:V.bel n x with
  | false=>simp [hb] at h
  | true=>
   simp only [hb,cond_true,Option.some.injEq] at h
   subst h
   simp only [zbz] at hv
   by_cases hu:u=t
   ·subst hu;simp at hv;subst hv;exact ⟨h1,hb⟩
   ·rw [if_neg hu] at hv;exact zD6 h2 t v hv
theorem zD7 {n:Nat} {tm:List (Nat×List V)}:∀ {sl:List Nat} {r:List (Nat×List V)},zGS n tm sl=some r->∀t v,lk r t=some v->lk tm t=some v/\V.bels n v=true
 | [],r,h,t,v,hv=>by simp [zGS] at h;subst h;simp [lk] at hv
 | u::sl,r,h,t,v,hv=>by
  simp only [zGS] at h
  split at h<;>try (cases h;done)
  rename_i x r' h1 h2
  cases hb:V.bels n x with
  | false=>simp [hb] at h
  | true=>
   simp only [hb,cond_true,Option.some.injEq] at h
   subst h
   simp only [zbz] at hv
   by_cases hu:u=t
   ·subst hu;simp at hv;subst hv;exact ⟨h1,hb⟩
   ·rw [if_neg hu] at hv;exact zD7 h2 t v hv
theorem zmE {sl bl:List Nat} {nx:Nat} {s s':St} (h:canon sl bl nx s=some s') {w0:World} {ρ:Nat->Option Nat} {a:Act} {w:World} (hr:Rel w0 ρ s a w)
  (hlive:∀b cs,lk s'.mm.blks b=some cs->b<nx):Rel w0 (cutR nx ρ) s' a w:=by
 unfold canon at h
 split at h<;>try (cases h;done)
 rename_i tm bs h1 h2
 cases hb:(Nat.ble nx s.mm.nxt&&Nat.ble s.mm.lo nx) with
 | false=>simp [hb] at h
 | true=>
  simp only [hb,cond_true,Option.some.injEq] at h
  subst h
  simp only [Bool.and_eq_true] at hb
  have hle:=Nat.le_of_ble_eq_true hb.1
  have hle2:=Nat.le_of_ble_eq_true hb.2
  have sub:∀b r,cutR nx ρ b=some r->ρ b=some r:=fun b r h=>by unfold cutR at h;split at h<;>first|exact h|cases h
  refine ⟨fun t v hv=>?_,hr.sz,hr.df,⟨fun b cs hc=>?_,fun b b' r h1 h2=>hr.mr.inj b b' r (sub _ _ h1) (sub _ _ h2),fun b hb=>?_,fun b r h=>hr.mr.dom b r (sub _ _ h),fun b r hb h=>hr.mr.own b r hb (sub _ _ h),hr.mr.bel,hle2,hr.mr.am⟩⟩
  ·obtain ⟨k1,k2⟩:=zD6 h1 t v hv
   obtain ⟨x,hx,hvx⟩:=hr.tm t v k1
   exact ⟨x,hx,hvx.bel k2⟩
  ·obtain ⟨k1,k2⟩:=zD7 h2 b cs hc
   obtain ⟨r,xs,t,hr',hx,hv⟩:=hr.mr.blk b cs k1
   exact ⟨r,xs,t,by simp [cutR,hlive b cs hc,hr'],hx,hv.bel k2⟩
  ·unfold cutR;rw [if_neg (by simpa using hb)]
inductive Lp (α:Type) where
 | again (x:α)
 | out (x:α)
def Lf {α:Type} (body:α->Tr (Lp α)):Nat->α->Tr α
 | 0,_=> .bad
 | n+1,x=>(body x).bind fun y=>match y with
  | .again z=>Lf body n z
  | .out z=> .leaf z
def zvO {α:Type} (sl bl:List Nat) (nx:Nat) (rd:St->Option α) (st:α->St) (e:X) (G:α->Bool) (L:α->α):LpF:=fun A s K=>
 bif Nat.beq s.mm.nxt nx then match canon sl bl nx s with
  | some s1=>match rd s1 with
   | some x=>bif G x then K e (st (L x)) else none
   | none=>none
  | none=>none
 else none
theorem zl4 {P:Program} {c:Code} {α:Type} {sl bl:List Nat} {nx:Nat} {rd:St->Option α} {st:α->St} {e:X} {G:α->Bool} {L:α->α} {body:α->Tr (Lp α)} {n:Nat}
  {t:Tb P} {lt:LT} (hne:e ≠ .norm)
  (hlt:∀c'∈zeV c,∀f,lt (key c')=some f->zkp P c' f)
  (hrd:∀s x,rd s=some x->s=st x)
  (hbl:∀x b cs,lk (st x).mm.blks b=some cs->b<nx)
  (hstep:∀x,evC (A:=X×St) t.T (zoH t.T (fun _=>t.drw) t.Es t.Bs t.N t.d) t.drw lt t.N c (st x) (fun z s'=>match canon sl bl nx s' with
    | some s''=>some (z,s'')
    | none=>none)=(body x).fold fun y=>match y with
     | .again z=>some (.norm,st z)
     | .out z=>some (e,st z))
  (hG:∀x,G x=true->(Lf body n x).opt=some (L x)):zkp P c (zvO sl bl nx rd st e G L):=by
 have rounds:∀n x y,(Lf body n x).opt=some y->∀(w0:World) (ρ:Nat->Option Nat) (a:Act) (w:World) (Q:Exit->Act->World->Prop),Rel w0 ρ (st x) a w->
   (∀ρ' a' w',(∀b r,b<nx->ρ b=some r->ρ' b=some r)->Rel w0 ρ' (st y) a' w'->Q e.out a' w')->Code.rounds P c Q n a w:=by
  intro n
  induction n with
  | zero=>intro x y h;simp [Lf,Tr.opt] at h
  | succ n ih=>
   intro x y h w0 ρ a w Q hr hq
   rw [rounds_succ]
   simp only [Lf,Tr.zno] at h
   have hs:=hstep x
   rw [Tr.zEG] at hs
   split at h<;>try (cases h;done)
   rename_i z hz
   rw [hz] at hs
   cases z with
   | again z=>
    refine zlo (zh7 (fun _ _=>t.zdO w0) t.d) (t.zdO w0) c hlt _ _ hs ρ a w _ hr fun q s' ρ' a' w' ext hr' hk=>?_
    dsimp only at hk
    split at hk<;>try (cases hk;done)
    rename_i s'' hc
    simp only [Option.some.injEq,Prod.mk.injEq] at hk
    obtain ⟨rfl,rfl⟩:=hk
    have hr'':=zmE hc hr' (hbl z)
    exact ih z y h w0 _ a' w' Q hr'' fun ρ'' a'' w'' k1 k2=>hq ρ'' a'' w'' (fun b r hb hbr=>k1 b r hb (by simp [cutR,hb,ext b r hbr])) k2
   | out z=>
    simp only [Tr.opt,Option.some.injEq] at h
    subst h
    refine zlo (zh7 (fun _ _=>t.zdO w0) t.d) (t.zdO w0) c hlt _ _ hs ρ a w _ hr fun q s' ρ' a' w' ext hr' hk=>?_
    dsimp only at hk
    split at hk<;>try (cases hk;done)
    rename_i s'' hc
    simp only [Option.some.injEq,Prod.mk.injEq] at hk
    obtain ⟨rfl,rfl⟩:=hk
    have hr'':=zmE hc hr' (hbl z)
    have hqq:=hq _ a' w' (fun b r hb hbr=>by simp [cutR,hb,ext b r hbr]) hr''
    cases q with
    | norm=>exact absurd rfl hne
    | exit id=>exact hqq
    | ret=>exact hqq
 intro A w0 s K r h ρ a w Q hr hq
 unfold zvO at h
 cases hnx:Nat.beq s.mm.nxt nx with
 | false=>simp [hnx] at h
 | true=>
  simp only [hnx,cond_true] at h
  have hnx':=Nat.eq_of_beq_eq_true hnx
  split at h<;>try (cases h;done)
  rename_i s1 hc
  split at h<;>try (cases h;done)
  rename_i x hx
  cases hg:G x with
  | false=>simp [hg] at h
  | true=>
   simp only [hg,cond_true] at h
   have hs1:=hrd s1 x hx
   subst hs1
   have hr1:=zmE hc hr (hbl x)
   refine wp_loop_rounds n (rounds n x (L x) (hG x hg) w0 _ a w Q hr1 fun ρ' a' w' k1 k2=>hq e (st (L x)) ρ' a' w' (fun b r hb=>?_) k2 h)
   have hlt:b<nx:=by
    rcases Nat.lt_or_ge b nx with h'|h'
    ·exact h'
    ·have:=hr.mr.fresh b (by omega);rw [this] at hb;cases hb
   exact k1 b r hlt (by simp [cutR,hlt,hb])
end Go.Proofs.YtaoakfodkoifoaaGreat.Ev
