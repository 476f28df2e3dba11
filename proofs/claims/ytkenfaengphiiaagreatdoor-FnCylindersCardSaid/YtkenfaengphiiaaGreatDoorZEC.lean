/- The law FnCylinders gives true, whatever bytes come in, where the listed tables hold what the program's text lays. The card: the tables tied to the text. No other conditions. (One of the texts of its proof, put together by a program of this session.) -/
import Derived.Test.YtkenfaengphiiaaGreatDoorZEB
import Derived.ProofKit
import Derived.Laws.Externs
import Derived.KernelRfl
set_option linter.unusedSectionVars false
set_option linter.unusedSimpArgs false
set_option linter.unusedVariables false
namespace Go.Proofs.YtkenfaengphiiaaGreatDoor.Ev
open Go Go.RowKit Go.ChangeShapes Go.WideShapes
variable [Amb]
inductive Lk where|bool|i64|u64|u8|str
def V.lk:V->Option Lk
 | .bool _=>some .bool
 | .i64 _=>some .i64
 | .u64 _=>some .u64
 | .u8 _=>some .u8
 | .str _=>some .str
 | _=>none
def zDi (P:Program) (rec:TypeId->Option (List Lk)):List Field->Nat->Option (List Lk)
 | [],_=>some []
 | f::fs,off=>match rec f.type with
  | some ks=>bif Nat.beq f.offset off&&Nat.beq (P.cellsOf f.type) ks.length then match zDi P rec fs (off+ks.length) with
    | some r=>some (ks++r)
    | none=>none
   else none
  | none=>none
def zLa (P:Program):Nat->TypeId->Option (List Lk)
 | 0,_=>none
 | n+1,t=>match P.underlying t with
  | some .bool=>some [.bool]
  | some (.int .i64)=>some [.i64]
  | some (.int .u64)=>some [.u64]
  | some (.int .u8)=>some [.u8]
  | some .string=>some [.str]
  | some (.struct fs)=>match zDi P (zLa P n) fs.toList 0 with
   | some ks=>bif Nat.beq (P.cellsOf t) ks.length then some ks else none
   | none=>none
  | _=>none
section
variable {H:Type} {enc:TypeId×Value->H} {P:Program} {w:World} {base:Nat} {spare:Nat->Bool} {held:Bool} {ρ:Nat->Option Nat}
class Arg (α:Type) extends Enc α where
 ks:List Lk
 agg:Bool
 of:∀vs:List V,vs.map V.lk=ks.map some->∃x:α,(bif agg then .agg vs else oneV vs)=enc x
end
theorem zeQ {v:V} (h:v.lk=some .i64):∃x,v= .i64 x:=by cases v<;>simp [V.lk] at h;exact ⟨_,rfl⟩
theorem zHu {v:V} (h:v.lk=some .bool):∃x,v= .bool x:=by cases v<;>simp [V.lk] at h;exact ⟨_,rfl⟩
theorem zIW {v:V} (h:v.lk=some .str):∃x,v= .str x:=by cases v<;>simp [V.lk] at h;exact ⟨_,rfl⟩
theorem map_cons {vs:List V} {k:Option Lk} {ks:List (Option Lk)} (h:vs.map V.lk=k::ks):∃v us,vs=v::us/\v.lk=k/\us.map V.lk=ks:=by
 cases vs with
 | nil=>cases h
 | cons v us=>simp at h;exact ⟨v,us,rfl,h.1,h.2⟩
theorem map_nil {vs:List V} (h:vs.map V.lk= []):vs= []:=by simpa using h
instance:Arg I64 where
 ks:= [.i64]
 agg:=false
 of:=fun vs h=>by
  obtain ⟨v,us,rfl,h,hn⟩:=map_cons h;obtain ⟨a,rfl⟩:=zeQ h;cases map_nil hn;exact ⟨a,rfl⟩
instance:Arg Bool where
 ks:= [.bool]
 agg:=false
 of:=fun vs h=>by
  obtain ⟨v,us,rfl,h,hn⟩:=map_cons h;obtain ⟨a,rfl⟩:=zHu h;cases map_nil hn;exact ⟨a,rfl⟩
instance:Arg ByteArray where
 ks:= [.str]
 agg:=false
 of:=fun vs h=>by
  obtain ⟨v,us,rfl,h,hn⟩:=map_cons h;obtain ⟨a,rfl⟩:=zIW h;cases map_nil hn;exact ⟨a,rfl⟩
instance:Arg Iv where
 ks:= [.i64,.i64]
 agg:=true
 of:=fun vs h=>by
  obtain ⟨v,us,rfl,k1,h1⟩:=map_cons h;obtain ⟨a,rfl⟩:=zeQ k1
  obtain ⟨v,us,rfl,k1,h2⟩:=map_cons h1;obtain ⟨b,rfl⟩:=zeQ k1
  cases map_nil h2;exact ⟨⟨a,b⟩,rfl⟩
instance:Arg zbk where
 ks:= [.i64,.i64]
 agg:=true
 of:=fun vs h=>by
  obtain ⟨v,us,rfl,k1,h1⟩:=map_cons h;obtain ⟨a,rfl⟩:=zeQ k1
  obtain ⟨v,us,rfl,k1,h2⟩:=map_cons h1;obtain ⟨b,rfl⟩:=zeQ k1
  cases map_nil h2;exact ⟨⟨a,b⟩,rfl⟩
instance:Arg Place where
 ks:= [.i64,.i64,.i64]
 agg:=true
 of:=fun vs h=>by
  obtain ⟨v,us,rfl,k1,h1⟩:=map_cons h;obtain ⟨a,rfl⟩:=zeQ k1
  obtain ⟨v,us,rfl,k1,h2⟩:=map_cons h1;obtain ⟨b,rfl⟩:=zeQ k1
  obtain ⟨v,us,rfl,k1,h3⟩:=map_cons h2;obtain ⟨c,rfl⟩:=zeQ k1
  cases map_nil h3;exact ⟨⟨⟨a,b⟩,c⟩,rfl⟩
instance:Arg Ell where
 ks:= [.i64,.i64,.i64]
 agg:=true
 of:=fun vs h=>by
  obtain ⟨v,us,rfl,k1,h1⟩:=map_cons h;obtain ⟨a,rfl⟩:=zeQ k1
  obtain ⟨v,us,rfl,k1,h2⟩:=map_cons h1;obtain ⟨b,rfl⟩:=zeQ k1
  obtain ⟨v,us,rfl,k1,h3⟩:=map_cons h2;obtain ⟨c,rfl⟩:=zeQ k1
  cases map_nil h3;exact ⟨⟨a,b,c⟩,rfl⟩
instance:Arg Proj where
 ks:= [.i64,.i64,.i64,.i64,.i64]
 agg:=true
 of:=fun vs h=>by
  obtain ⟨v,us,rfl,k1,h1⟩:=map_cons h;obtain ⟨a,rfl⟩:=zeQ k1
  obtain ⟨v,us,rfl,k1,h2⟩:=map_cons h1;obtain ⟨b,rfl⟩:=zeQ k1
  obtain ⟨v,us,rfl,k1,h3⟩:=map_cons h2;obtain ⟨c,rfl⟩:=zeQ k1
  obtain ⟨v,us,rfl,k1,h4⟩:=map_cons h3;obtain ⟨d,rfl⟩:=zeQ k1
  obtain ⟨v,us,rfl,k1,h5⟩:=map_cons h4;obtain ⟨e,rfl⟩:=zeQ k1
  cases map_nil h5;exact ⟨⟨a,b,c,d,e⟩,rfl⟩
instance:Arg zfV where
 ks:= [.i64,.i64,.i64,.i64]
 agg:=true
 of:=fun vs h=>by
  obtain ⟨v,us,rfl,k1,h1⟩:=map_cons h;obtain ⟨a,rfl⟩:=zeQ k1
  obtain ⟨v,us,rfl,k1,h2⟩:=map_cons h1;obtain ⟨b,rfl⟩:=zeQ k1
  obtain ⟨v,us,rfl,k1,h3⟩:=map_cons h2;obtain ⟨c,rfl⟩:=zeQ k1
  obtain ⟨v,us,rfl,k1,h4⟩:=map_cons h3;obtain ⟨d,rfl⟩:=zeQ k1
  cases map_nil h4;exact ⟨⟨⟨a,b⟩,⟨c,d⟩⟩,rfl⟩
instance:Arg Vec where
 ks:= [.i64,.i64,.i64,.i64,.i64,.i64]
 agg:=true
 of:=fun vs h=>by
  obtain ⟨v,us,rfl,k1,h1⟩:=map_cons h;obtain ⟨a,rfl⟩:=zeQ k1
  obtain ⟨v,us,rfl,k1,h2⟩:=map_cons h1;obtain ⟨b,rfl⟩:=zeQ k1
  obtain ⟨v,us,rfl,k1,h3⟩:=map_cons h2;obtain ⟨c,rfl⟩:=zeQ k1
  obtain ⟨v,us,rfl,k1,h4⟩:=map_cons h3;obtain ⟨d,rfl⟩:=zeQ k1
  obtain ⟨v,us,rfl,k1,h5⟩:=map_cons h4;obtain ⟨e,rfl⟩:=zeQ k1
  obtain ⟨v,us,rfl,k1,h6⟩:=map_cons h5;obtain ⟨f,rfl⟩:=zeQ k1
  cases map_nil h6;exact ⟨⟨⟨a,b⟩,⟨c,d⟩,⟨e,f⟩⟩,rfl⟩
end Go.Proofs.YtkenfaengphiiaaGreatDoor.Ev
/-
 A small evaluator for the program's code: the two functions of math/bits that have no body;tables of loops.
-/
namespace Go.Proofs.YtkenfaengphiiaaGreatDoor.Ev
open Go Go.RowKit
variable [Amb]
section
variable {P:Program}
def Ent.ofV3 {γ:Type} [Enc γ] (id:Nat) (G:U64->U64->U64->Bool) (F:U64->U64->U64->γ)
  (h:∀(x y z:U64) (w:World),G x y z=true->∃v,(callFunc id #[.int .u64 x.val,.int .u64 y.val,.int .u64 z.val]).run P w= .ok (.value v) w/\∀ρ,VR ρ (enc (F x y z)) v):Ent P where
 id:=id
 g:=fun vs _=>match vs with
  | [x,y,z]=>match (dec x:Option U64),(dec y:Option U64),(dec z:Option U64) with
   | some x,some y,some z=>G x y z
   | _,_,_=>false
  | _=>false
 fn:=fun vs _=>match vs with
  | [x,y,z]=>match (dec x:Option U64),(dec y:Option U64),(dec z:Option U64) with
   | some x,some y,some z=>some (enc (F x y z))
   | _,_,_=>none
  | _=>none
 ok:=fun vs m v hg hf w0 ρ xs w hv hm=>by
  split at hf<;>try (cases hf;done)
  split at hf<;>try (cases hf;done)
  rename_i x y z hx hy hz
  cases hf
  simp only [hx,hy,hz] at hg
  have e1:=Enc.dec_enc _ _ hx
  have e2:=Enc.dec_enc _ _ hy
  have e3:=Enc.dec_enc _ _ hz
  subst e1;subst e2;subst e3
  cases hv with
  | cons h1 hv=>cases hv with
   | cons h2 hv=>cases hv with
    | cons h3 hv=>cases hv with
     | nil=>
      cases h1;cases h2;cases h3
      obtain ⟨v,k1,k2⟩:=h x y z w hg
      exact zBt k1 ⟨k2 ρ,Below.refl _ _⟩
def zdG (x y c:U64):T2 U64 U64:=⟨.w .u64 (x.val+y.val+c.val),.w .u64 ((x.val+y.val+c.val)/18446744073709551616)⟩
def zeK (x y c:U64):T2 U64 U64:=⟨.w .u64 (x.val-y.val-c.val),.w .u64 (if x.val<y.val+c.val then 1 else 0)⟩
def zpK (_ _ c:U64):Bool:=decide (c.val<=1)
theorem zpX (n:Int):IntKind.u64.wrap n=n%18446744073709551616:=by
 simp [IntKind.wrap,IntKind.bits,IntKind.signed]
def Ent.add64 {f : Nat} {fn : Func} (hf : P.funcs[f]? = some fn) (hname : (fn.name == "runtime.NumGoroutine") = false) (hb : fn.body.isNone = true) (hn : Extern.findNext fn = none)
  (he:Extern.find fn=some (Extern.MathBitsCarry.rows.head (by decide)).2):Ent P:= .ofV3 f zpK zdG fun x y z w hg=>by
 have hz:z.val<=1:=by simpa [zpK] using hg
 have b1:=x.ubd;have b2:=y.ubd;have b3:=z.ubd
 refine ⟨_,?_,fun ρ=> .tup (.cons (.u64 _) (.cons (.u64 _) .nil))⟩
 rw [run_callFunc_extern hf hname hb hn he]
 have:=run_add64 (P:=P) x.val y.val z.val b1.1 b2.1 b3.1 hz w
 show ((add64Entry #[.int .u64 x.val,.int .u64 y.val,.int .u64 z.val]).run P w).andThen _=_
 rw [this]
 simp only [Result.andThen_ok,zdG,Rng.val_w,zpX]
 have:(x.val+y.val+z.val)/18446744073709551616%18446744073709551616=(x.val+y.val+z.val)/18446744073709551616:=by omega
 rw [this]
theorem zGK (x y b:Nat) (hb:b<=1) (w:World):((Extern.MathBitsCarry.rows.getLast (by decide)).2 #[.int .u64 x,.int .u64 y,.int .u64 b]).run P w=
  .ok (.tuple #[.int .u64 (((x+18446744073709551616-y-b)%18446744073709551616:Nat):Int),.int .u64 ((if x<y+b then 1 else 0:Nat):Int)]) w:=by
 have:b=0\/b=1:=by omega
 rcases this with rfl|rfl<;>rfl
def Ent.sub64 {f : Nat} {fn : Func} (hf : P.funcs[f]? = some fn) (hname : (fn.name == "runtime.NumGoroutine") = false) (hb : fn.body.isNone = true) (hn : Extern.findNext fn = none)
  (he:Extern.find fn=some (Extern.MathBitsCarry.rows.getLast (by decide)).2):Ent P:= .ofV3 f zpK zeK fun x y z w hg=>by
 have hz:z.val<=1:=by simpa [zpK] using hg
 have b1:=x.ubd;have b2:=y.ubd;have b3:=z.ubd
 refine ⟨_,?_,fun ρ=> .tup (.cons (.u64 _) (.cons (.u64 _) .nil))⟩
 rw [run_callFunc_extern hf hname hb hn he]
 obtain ⟨a,ha⟩:=Int.eq_ofNat_of_zero_le b1.1
 obtain ⟨b,hb⟩:=Int.eq_ofNat_of_zero_le b2.1
 obtain ⟨c,hc⟩:=Int.eq_ofNat_of_zero_le b3.1
 simp only [zeK,Rng.val_w,zpX]
 rw [ha,hb,hc]
 rw [ha] at b1;rw [hb] at b2;rw [hc] at b3 hz
 rw [zGK a b c (by omega)]
 have e1:(((a+18446744073709551616-b-c)%18446744073709551616:Nat):Int)=((a:Int)-b-c)%18446744073709551616:=by omega
 have e2:((if a<b+c then 1 else 0:Nat):Int)=(if (a:Int)<b+c then 1 else 0)%18446744073709551616:=by split<;>split<;>omega
 rw [e1,e2]
 rfl
def zCw:Operand->List ByteArray
 | .const (.string s)=> [s]
 | _=> []
def zl2:Code->List ByteArray
 | .seq a b=>zl2 a++zl2 b
 | .cond x a b=>zCw x++(zl2 a++zl2 b)
 | .block _ a=>zl2 a
 | .loop a=>zl2 a
 | .region _ ops _=>ops.toList.flatMap fun o=>o.op.operands.toList.flatMap zCw
 | _=> []
theorem zxp {α:Type} {nx:Nat}:∀ {l:List (Nat×α)} {b:Nat} {c:α},(l.map (·.1)).all (fun b=>Nat.blt b nx)=true->lk l b=some c->b<nx
 | [],b,c,_,h=>by simp [lk] at h
 | (k,v)::t,b,c,ha,h=>by
  simp only [List.map_cons,List.all_cons,Bool.and_eq_true] at ha
  simp only [zbj] at h
  by_cases hk:k=b
  ·subst hk;simpa using ha.1
  ·rw [if_neg hk] at h;exact zxp ha.2 h
def zox (c:Code) (i:Nat):Code:=(zem c).getD i .skip
theorem zav.of {c:Code} {ks:List Nat} (hk:(zem c).map key=ks) {lt:LT} (h:∀i k,ks[i]?=some k->∀f,lt k=some f->zlt P (zox c i) f):
  ∀c'∈zem c,∀f,lt (key c')=some f->zlt P c' f:=by
 intro c' hc f hf
 obtain ⟨i,hi,he⟩:=List.getElem_of_mem hc
 have:=h i (key c') (by rw [<- hk];simp [hi,he]) f hf
 unfold zox at this
 simpa [List.getD,hi,he] using this
def ltOf:List (Nat×LpF)->LT
 | [],_=>none
 | (k,f)::t,n=>bif Nat.beq k n then some f else ltOf t n
end
end Go.Proofs.YtkenfaengphiiaaGreatDoor.Ev
/-
 A small evaluator for the program's code: entries of closures that read what they have captured.
-/
namespace Go.Proofs.YtkenfaengphiiaaGreatDoor.Ev
open Go Go.RowKit
variable [Amb]
class Cap (δ:Type) where
 ec:δ->List V
 dc:List V->Option δ
 dc_ec:∀cs d,dc cs=some d->cs=ec d
 pf:∀d,V.pfs (ec d)=true
structure zEh (k:Nat) where
instance (k:Nat):Cap (zEh k) where
 ec:=fun _=> [.fn k []]
 dc:=fun cs=>match cs with
  | [.fn f []]=>bif Nat.beq f k then some ⟨⟩ else none
  | _=>none
 dc_ec:=fun cs d h=>by
  split at h<;>try (cases h;done)
  rename_i f
  cases hf:Nat.beq f k with
  | false=>simp [hf] at h
  | true=>rw [Nat.eq_of_beq_eq_true hf]
 pf:=fun _=>rfl
instance {α:Type} [Flat α]:Cap α where
 ec:=Flat.put
 dc:=fun cs=>match Flat.get (α:=α) cs with
  | some (x,[])=>some x
  | _=>none
 dc_ec:=fun cs d h=>by
  split at h<;>try (cases h;done)
  rename_i h1
  cases h
  have:=Flat.get_put _ _ _ h1
  rw [this];simp
 pf:=Flat.pf
section
variable {P:Program}
def zDS (t:Tb P) (b:Bod P) (vs:List V) (blks:List (Nat×List V)) (n:Nat) (γ:Type) [Enc γ]:Option γ:=
 runk t.T (zmV t.T (fun _=>t.drw) t.Es t.Bs t.N t.d) t.drw t.N b vs ⟨blks,n,n⟩ fun v _=>dec v
theorem zzl {t:Tb P} {b:Bod P} {vs:List V} {blks:List (Nat×List V)} {n:Nat} {γ:Type} [Enc γ] {y:γ} (h:zDS t b vs blks n γ=some y) {ρ1:Nat->Option Nat} {xs:List Value} {w:World}
  (hv:VRs ρ1 vs xs) (hm:MRel w ρ1 ⟨blks,n,n⟩ w):Does P b.id xs.toArray w fun x w'=>(∀ρ,VR ρ (enc y) x)/\Below w.heap.size w w':=by
 intro o a next Q hn
 rw [zen,Oper.upon_enter]
 refine (zpa (w0:=w) (zjH (fun _ _=>t.zfx w) t.d) (t.zfx w) h hv hm).mono fun e w' he=>?_
 obtain ⟨v,m',ρ',x,rfl,h1,h2,h3,h4⟩:=he
 have:=Enc.dec_enc _ _ h4
 subst this
 exact hn x w' ⟨fun ρ=>h2.pf (Enc.pf y),h3.bel⟩
def Ent.cap1 {α δ γ:Type} [Enc α] [Cap δ] [Enc γ] (t:Tb P) (b:Bod P) (G:α->δ->Bool) (F:α->δ->γ)
  (h:∀x d,G x d=true->zDS t b [enc x,.ptr 0 0] [(0,Cap.ec d)] 1 γ=some (F x d)):Ent P where
 id:=b.id
 g:=fun vs blks=>match vs with
  | [x,.ptr k 0]=>match (dec x:Option α),lk blks k with
   | some x,some cs=>match (Cap.dc cs:Option δ) with
    | some d=>G x d
    | none=>false
   | _,_=>false
  | _=>false
 fn:=fun vs blks=>match vs with
  | [x,.ptr k 0]=>match (dec x:Option α),lk blks k with
   | some x,some cs=>match (Cap.dc cs:Option δ) with
    | some d=>some (enc (F x d))
    | none=>none
   | _,_=>none
  | _=>none
 ok:=fun vs m v hg hf w0 ρ xs w hv hm=>by
  split at hf<;>try (cases hf;done)
  rename_i x0 k
  split at hf<;>try (cases hf;done)
  rename_i x cs hx hk
  split at hf<;>try (cases hf;done)
  rename_i d hd
  cases hf
  simp only [hx,hk,hd] at hg
  have e1:=Enc.dec_enc _ _ hx
  have e2:=Cap.dc_ec _ _ hd
  subst e1;subst e2
  obtain ⟨r,ys,ty,hr,hrow,hys⟩:=hm.blk k _ hk
  cases hv with
  | cons h1 ht=>cases ht with
   | cons h2 ht=>cases ht with
    | nil=>
     cases h2
     rename_i r' hr'
     rw [hr] at hr';cases hr'
     have h0:(fun b=>if b=0 then some r else none:Nat->Option Nat) 0=some r:=rfl
     refine (zzl (ρ1:=fun b=>if b=0 then some r else none) (h x d hg) (.cons (h1.pf (Enc.pf x)) (.cons (.ptr h0) .nil)) ⟨fun b cs hb=>?_,?_,?_,?_,?_,Below.refl _ _,Nat.le_refl _,hm.amb⟩).mono fun v w' hh=>⟨hh.1 ρ,hh.2⟩
     ·simp only [zbj] at hb
      by_cases hb0:0=b
      ·subst hb0;simp at hb;subst hb
       exact ⟨r,ys,ty,h0,hrow,hys.pf (Cap.pf d)⟩
      ·rw [if_neg hb0] at hb;simp [lk] at hb
     ·intro b b' q h3 h4;split at h3<;>split at h4<;>simp_all
     ·intro b hb;rw [if_neg (by simp at hb;omega)]
     ·intro b q hq
      split at hq
      ·cases hq;exact hm.dom _ _ hr
      ·cases hq
     ·intro b q hb hq;rw [if_neg (by simp at hb;omega)] at hq;cases hq
def ordL {A:Type} (T:List (TyE P)) (call:zks A):List Oper->St->(St->Option A)->Option A
 | [],s,K=>K s
 | o::rest,s,K=>bif s.fits o.dst then opk T call s o (fun v m=>ordL T call rest (s.put o.dst v m) K) else none
def chain (P:Program) (Q:Exit->Act->World->Prop):List Oper->Act->World->Prop
 | [],a,w=>Q .normal a w
 | o::rest,a,w=>o.wp P a w (chain P Q rest) Q
theorem zpp {A:Type} {T:List (TyE P)} {call:zks A} {w0:World} (hcall:znD P w0 call) {Q:Exit->Act->World->Prop} {r:A}:∀(l:List Oper) (s:St) (K:St->Option A),ordL T call l s K=some r->
  ∀(ρ:Nat->Option Nat) (a:Act) (w:World),Rel w0 ρ s a w->(∀s' ρ' a' w',Ext ρ ρ'->Rel w0 ρ' s' a' w'->K s'=some r->Q .normal a' w')->chain P Q l a w
 | [],s,K,h,ρ,a,w,hr,hq=>hq s ρ a w (Ext.refl _) hr h
 | o::rest,s,K,h,ρ,a,w,hr,hq=>by
  simp only [ordL] at h
  cases hf:s.fits o.dst with
  | false=>simp [hf] at h
  | true=>
   simp only [hf,cond_true] at h
   refine zmO hcall h hr fun v m' ρ' x w' e hv hm _ hk=>?_
   exact zpp hcall rest _ K hk ρ' _ w' (hr.put e hv hf hm) fun s' ρ'' a' w'' e' h1 h2=>hq s' ρ'' a' w'' (e.trans e') h1 h2
def forced (ops:Array Oper):List Nat->Array Bool->Bool
 | [],listed=>(Region.ready .any ops listed).isEmpty
 | i::t,listed=>(match Region.ready .any ops listed with
  | [j]=>Nat.beq i j
  | _=>false)&&(match ops[i]? with
  | some o=>o.guard.isNone
  | none=>false)&&forced ops t (listed.setIfInBounds i true)
def zvv (ops:Array Oper) (l:List Nat):List Oper:=l.map fun i=>ops.getD i default
theorem zu0 {ops:Array Oper} {Q:Exit->Act->World->Prop} {i:Nat} {a:Act} {w:World} {K:Act->World->Prop} (hg:(match ops[i]? with
  | some o=>o.guard.isNone
  | none=>false)=true) (h:(ops.getD i default).wp P a w K Q):wpOp P ops Q i K a w:=by
 unfold wpOp
 cases ho:ops[i]? with
 | none=>simp [ho] at hg
 | some o=>
  rw [ho] at hg
  have hgd:ops.getD i default=o:=by simp [Array.getD_eq_getD_getElem?,ho]
  rw [hgd] at h
  have hgn:o.guard=none:=by simpa using hg
  have hw:Region.wanted o (yielded ops a.tmps)=true:=by simp [Region.wanted,hgn]
  simp only [hw,if_true]
  exact .inl h
theorem zpE {ops:Array Oper} {Q:Exit->Act->World->Prop}:∀(l:List Nat) (listed:Array Bool) (a:Act) (w:World),forced ops l listed=true->chain P Q (zvv ops l) a w->wpAny P .any ops Q l.length listed a w
 | [],listed,a,w,hf,h=>⟨by simpa [forced] using hf,h⟩
 | i::t,listed,a,w,hf,h=>by
  simp only [forced,Bool.and_eq_true] at hf
  obtain ⟨⟨h1,h2⟩,h3⟩:=hf
  cases hrd:Region.ready .any ops listed with
  | nil=>rw [hrd] at h1;simp at h1
  | cons j tl=>
   cases tl with
   | cons k tl'=>rw [hrd] at h1;simp at h1
   | nil=>
    rw [hrd] at h1
    have hij:=Nat.eq_of_beq_eq_true h1
    subst hij
    refine ⟨fun hn=>(by rw [hrd] at hn;cases hn),fun k hk=>?_⟩
    rw [hrd] at hk
    simp at hk;subst hk
    refine zu0 h2 (Oper.wp_mono (K:=chain P Q (zvv ops t)) ?_ h)
    intro a' w' h'
    exact zpE t _ a' w' h3 h'
def zEo (ops:Array Oper) (i j:Nat) (l1 l2:List Nat):Bool:=
 (match Region.ready .any ops (Array.replicate ops.size false) with
  | [x,y]=>Nat.beq x i&&Nat.beq y j
  | _=>false)&&(match ops[i]? with
  | some o=>o.guard.isNone
  | none=>false)&&(match ops[j]? with
  | some o=>o.guard.isNone
  | none=>false)&&forced ops l1 ((Array.replicate ops.size false).setIfInBounds i true)&&forced ops l2 ((Array.replicate ops.size false).setIfInBounds j true)&&Nat.beq (l1.length+1) ops.size&&Nat.beq (l2.length+1) ops.size
theorem Rel.drew {w0:World} {ρ:Nat->Option Nat} {s:St} {a:Act} {w:World} (h:Rel w0 ρ s a w):Rel w0 ρ s a w.drew:=
 ⟨h.tm,h.sz,h.df,⟨h.mr.blk,h.mr.inj,h.mr.fresh,h.mr.dom,h.mr.own,h.mr.bel.drew,h.mr.lon,h.mr.am⟩⟩
theorem zFs {A:Type} {T:List (TyE P)} {call:zks A} {w0:World} (hcall:znD P w0 call) (hm:P.follows .mixedOrders=true) {id:Nat} {ops:Array Oper} {i j:Nat} {l1 l2:List Nat} (hz:zEo ops i j l1 l2=true) {s:St} {K:St->Option A} {r:A}
  (h1:ordL T call (zvv ops (i::l1)) s K=some r) (h2:ordL T call (zvv ops (j::l2)) s K=some r) {ρ:Nat->Option Nat} {a:Act} {w:World} {Q:Exit->Act->World->Prop} (hr:Rel w0 ρ s a w)
  (hq:∀s' ρ' a' w',Ext ρ ρ'->Rel w0 ρ' s' a' w'->K s'=some r->Q .normal a' w'):(Code.region id ops true).wp P Q a w:=by
 simp only [zEo,Bool.and_eq_true] at hz
 obtain ⟨⟨⟨⟨⟨⟨z1,z2⟩,z3⟩,z4⟩,z5⟩,z6⟩,z7⟩:=hz
 have c1:=zpp hcall _ s K h1 ρ a w.drew hr.drew hq
 have c2:=zpp hcall _ s K h2 ρ a w.drew hr.drew hq
 refine wp_region_any hm ?_
 have n1:=Nat.eq_of_beq_eq_true z6
 have n2:=Nat.eq_of_beq_eq_true z7
 suffices hh:wpAny P .any ops Q (l1.length+1) (Array.replicate ops.size false) a w.drew by rw [n1] at hh;exact hh
 refine ⟨fun hn=>?_,fun k hk=>?_⟩
 ·rw [hn] at z1;simp at z1
 ·have hk':k=i\/k=j:=by
   cases hrd:Region.ready .any ops (Array.replicate ops.size false) with
   | nil=>rw [hrd] at z1;simp at z1
   | cons x tl=>
    cases tl with
    | nil=>rw [hrd] at z1;simp at z1
    | cons y tl=>
     cases tl with
     | cons z tl=>rw [hrd] at z1;simp at z1
     | nil=>
      rw [hrd] at z1
      simp only [Bool.and_eq_true] at z1
      have e1:=Nat.eq_of_beq_eq_true z1.1
      have e2:=Nat.eq_of_beq_eq_true z1.2
      rw [hrd] at hk
      simp at hk
      omega
  rcases hk' with rfl|rfl
  ·refine zu0 z2 (Oper.wp_mono (K:=chain P Q (zvv ops l1)) ?_ c1)
   intro a' w' h'
   exact zpE l1 _ a' w' z4 h'
  ·refine zu0 z3 (Oper.wp_mono (K:=chain P Q (zvv ops l2)) ?_ c2)
   intro a' w' h'
   have hl:l1.length=l2.length:=by omega
   rw [hl]
   exact zpE l2 _ a' w' z5 h'
def zqt:Code->Code
 | .seq a _=>a
 | c=>c
def zzi:Code->Code
 | .seq _ b=>b
 | c=>c
def zpC:Code->Array Oper
 | .region _ ops _=>ops
 | _=>#[]
def zJg:Code->Nat
 | .region id _ _=>id
 | _=>0
def zuV (c:Code):Prop:=c= .seq (zqt c) (.seq (.region (zJg (zqt (zzi c))) (zpC (zqt (zzi c))) true) .ret)
def zBQ (t:Tb P) (b:Bod P) (vs:List V):Option (X×St):=
 evC (A:=X×St) t.T (zmV t.T (fun _=>t.drw) t.Es t.Bs t.N t.d) t.drw (fun _=>none) t.N (zqt b.code) ⟨zipF 0 vs,b.fn.ntmps,⟨[],0,0⟩⟩ (fun x s=>some (x,s))
def zGD (t:Tb P) (b:Bod P) (vs:List V):St:=match zBQ t b vs with
 | some (_,s)=>s
 | none=>⟨[],0,⟨[],0,0⟩⟩
def zzH (t:Tb P) (b:Bod P) (vs:List V) (l:List Nat) (γ:Type) [Enc γ]:Option γ:=
 ordL t.T (zmV t.T (fun _=>t.drw) t.Es t.Bs t.N t.d) (zvv (zpC (zqt (zzi b.code))) l) (zGD t b vs) fun s'=>match resv t.T s' b.fn.results.toList with
  | some us=>dec (oneV us)
  | none=>none
theorem zGS {t:Tb P} {b:Bod P} {i j:Nat} {l1 l2:List Nat} (hsh:zuV b.code) (hz:zEo (zpC (zqt (zzi b.code))) i j l1 l2=true) (hlp:∀c'∈zem (zqt b.code),False) {vs:List V} {γ:Type} [Enc γ] {y:γ} (s1:St)
  (hs1:evC (A:=X×St) t.T (zmV t.T (fun _=>t.drw) t.Es t.Bs t.N t.d) t.drw (fun _=>none) t.N (zqt b.code) ⟨zipF 0 vs,b.fn.ntmps,⟨[],0,0⟩⟩ (fun x s=>some (x,s))=some (.norm,s1))
  (h1:ordL t.T (zmV t.T (fun _=>t.drw) t.Es t.Bs t.N t.d) (zvv (zpC (zqt (zzi b.code))) (i::l1)) s1 (fun s'=>match resv t.T s' b.fn.results.toList with
    | some us=>(dec (oneV us):Option γ)
    | none=>none)=some y)
  (h2:ordL t.T (zmV t.T (fun _=>t.drw) t.Es t.Bs t.N t.d) (zvv (zpC (zqt (zzi b.code))) (j::l2)) s1 (fun s'=>match resv t.T s' b.fn.results.toList with
    | some us=>(dec (oneV us):Option γ)
    | none=>none)=some y) (hle:vs.length<=b.fn.ntmps) (hp:V.pfs vs=true)
  {ρ:Nat->Option Nat} {xs:List Value} {w:World} (hv:VRs ρ vs xs) (ha:Am w):Does P b.id xs.toArray w fun x w'=>(∀ρ,VR ρ (enc y) x)/\Below w.heap.size w w':=by
 intro o a next Q hn
 rw [zen,Oper.upon_enter]
 have hl:=hv.length
 have hv':VRs (fun _=>none) vs xs:=hv.pf hp
 refine Calls.mono (calls_of_wp (R:=fun e w'=>∃x,e= .returned x/\(∀ρ,VR ρ (enc y) x)/\Below w.heap.size w w') b.hf b.hb ?_) fun e w' he=>by
  obtain ⟨x,rfl,h3,h4⟩:=he
  exact hn x w' ⟨h3,h4⟩
 have hR:Rel w (fun _=>none) ⟨zipF 0 vs,b.fn.ntmps,⟨[],0,0⟩⟩ {tmps:=xs.toArray++Array.replicate (b.fn.ntmps-xs.toArray.size) undef,defers:= []} w:=by
  refine ⟨fun t v ht=>?_,by simp;omega,rfl,MRel.empty ha⟩
  obtain ⟨x,_,h1,h2⟩:=zuA vs xs 0 t v hv' ht
  refine ⟨x,?_,h2⟩
  have hlt:t<xs.length:=by
   rcases Nat.lt_or_ge t xs.length with h|h
   ·exact h
   ·simp [List.getElem?_eq_none h] at h1
  have h1':xs[t]?=some x:=by simpa using h1
  simp only [Array.getElem?_append,List.size_toArray,hlt,if_true,List.getElem?_toArray,h1']
 rw [hsh]
 refine wp_seq (zmT (zjH (fun _ _=>t.zfx w) t.d) (t.zfx w) _ (fun c' hc=>(hlp c' hc).elim) _ _ hs1 _ _ w _ hR fun x s' ρ' a' w' e hr' hk=>?_)
 simp only [Option.some.injEq,Prod.mk.injEq] at hk
 obtain ⟨rfl,rfl⟩:=hk
 refine wp_seq (zFs (zjH (fun _ _=>t.zfx w) t.d) t.mix hz h1 h2 hr' fun s2 ρ2 a2 w2 e2 hr2 hk2=>?_)
 refine wp_ret ?_
 split at hk2<;>try (cases hk2;done)
 rename_i us hus
 obtain ⟨z,z1,z2⟩:=zjZ (P:=P) hr2 hus
 have hd:=Enc.dec_enc _ _ hk2
 rw [hd] at z2
 exact ⟨hr2.df,z,z1,z,rfl,fun ρ3=>z2.pf (Enc.pf y),hr2.mr.bel⟩
def Ent.two1 {α γ:Type} [Enc α] [Enc γ] (t:Tb P) (b:Bod P) (G:α->Bool) (F:α->γ) (i:Nat) (l1:List Nat) (j:Nat) (l2:List Nat) (hsh:zuV b.code) (hz:zEo (zpC (zqt (zzi b.code))) i j l1 l2=true) (hlp:zem (zqt b.code)= []) (hle:Nat.ble 1 b.fn.ntmps=true)
  (h0:∀x:α,zBQ t b [enc x]=some (.norm,zGD t b [enc x])) (h1:∀x,G x=true->zzH t b [enc x] (i::l1) γ=some (F x)) (h2:∀x,G x=true->zzH t b [enc x] (j::l2) γ=some (F x)):Ent P where
 id:=b.id
 g:=fun vs _=>match vs with
  | [x]=>match (dec x:Option α) with
   | some x=>G x
   | _=>false
  | _=>false
 fn:=fun vs _=>match vs with
  | [x]=>match (dec x:Option α) with
   | some x=>some (enc (F x))
   | _=>none
  | _=>none
 ok:=fun vs m v hg hf w0 ρ xs w hv hm=>by
  split at hf<;>try (cases hf;done)
  split at hf<;>try (cases hf;done)
  rename_i x hx
  cases hf
  simp only [hx] at hg
  have:=Enc.dec_enc _ _ hx
  subst this
  exact (zGS hsh hz (fun c' hc=>by rw [hlp] at hc;cases hc) (zGD t b [enc x]) (h0 x) (h1 x hg) (h2 x hg) (by simpa using Nat.le_of_ble_eq_true hle) (by simp [V.pfs,Enc.pf]) hv hm.amb).mono fun v w' h=>⟨h.1 ρ,h.2⟩
end
end Go.Proofs.YtkenfaengphiiaaGreatDoor.Ev
/-
 A small evaluator for the program's code: entries whose first argument is a pointer.
-/
namespace Go.Proofs.YtkenfaengphiiaaGreatDoor.Ev
open Go Go.RowKit
variable [Amb]
structure Geo where
 e:Ell
 u:Iv
 v:Iv
 lon:Iv
 back:Bool
structure GeoS where
 e:Ell
 u:Iv
 v:Iv
 l:Iv
 d:I64
 ecc:Iv
 major:Iv
instance:Flat Geo where
 put:=fun v=> [.i64 v.e.a,.i64 v.e.num,.i64 v.e.den,.i64 v.u.lo,.i64 v.u.hi,.i64 v.v.lo,.i64 v.v.hi,.i64 v.lon.lo,.i64 v.lon.hi,.bool v.back]
 get:=fun vs=>match vs with
  | .i64 a :: .i64 b :: .i64 c :: .i64 d :: .i64 e :: .i64 f :: .i64 g :: .i64 h :: .i64 i :: .bool j::r=>some (⟨⟨a,b,c⟩,⟨d,e⟩,⟨f,g⟩,⟨h,i⟩,j⟩,r)
  | _=>none
 get_put:=fun vs x r h=>by split at h<;>cases h;rfl
 pf:=fun x=>rfl
instance:Flat GeoS where
 put:=fun v=> [.i64 v.e.a,.i64 v.e.num,.i64 v.e.den,.i64 v.u.lo,.i64 v.u.hi,.i64 v.v.lo,.i64 v.v.hi,.i64 v.l.lo,.i64 v.l.hi,.i64 v.d,.i64 v.ecc.lo,.i64 v.ecc.hi,.i64 v.major.lo,.i64 v.major.hi]
 get:=fun vs=>match vs with
  | .i64 a :: .i64 b :: .i64 c :: .i64 d :: .i64 e :: .i64 f :: .i64 g :: .i64 h :: .i64 i :: .i64 j :: .i64 k :: .i64 l :: .i64 m :: .i64 n::r=>some (⟨⟨a,b,c⟩,⟨d,e⟩,⟨f,g⟩,⟨h,i⟩,j,⟨k,l⟩,⟨m,n⟩⟩,r)
  | _=>none
 get_put:=fun vs x r h=>by split at h<;>cases h;rfl
 pf:=fun x=>rfl
instance:Enc Geo:=Flat.toEnc Geo
instance:Enc GeoS:=Flat.toEnc GeoS
section
variable {P:Program}
end
end Go.Proofs.YtkenfaengphiiaaGreatDoor.Ev
/-
 A small evaluator for the program's code: loops that are left by two ways.
-/
namespace Go.Proofs.YtkenfaengphiiaaGreatDoor.Ev
open Go Go.RowKit
variable [Amb]
inductive Lp2 (α:Type) where
 | again (x:α)
 | out (x:α)
 | alt (x:α)
structure Tw (α:Type) where
 b:Bool
 s:α
instance {α:Type} [Inhabited α]:Inhabited (Tw α):=⟨⟨true,default⟩⟩
def Lf2 {α:Type} (body:α->Tr (Lp2 α)):Nat->α->Tr (Tw α)
 | 0,_=> .bad
 | n+1,x=>(body x).bind fun y=>match y with
  | .again z=>Lf2 body n z
  | .out z=> .leaf ⟨true,z⟩
  | .alt z=> .leaf ⟨false,z⟩
end Go.Proofs.YtkenfaengphiiaaGreatDoor.Ev
namespace Go.Proofs.YtkenfaengphiiaaGreatDoor.Ev
open Go Go.RowKit
variable [Amb]
theorem hlb (n:Nat) (h:n*1<=140737488351232):inB .i64 ((n:Nat):Int)=true:=by
 simp only [inB,Bool.and_eq_true,decide_eq_true_eq];omega
def zrU:List V->List Nat->Bool
 | [],[]=>true
 | .arg k::vs,j::ks=>Nat.beq k j&&zrU vs ks
 | _,_=>false
def slv (k:Nat):Value:= .slice (Amb.A k) (Amb.len k) (Amb.cap k)
theorem zuj {ρ:Nat->Option Nat}:∀ {vs:List V} {ks:List Nat} {xs:List Value},zrU vs ks=true->VRs ρ vs xs->xs=ks.map slv
 | [],[],xs,_,h=>by cases h;rfl
 | [],_::_,xs,e,h=>by simp [zrU] at e
 | v::vs,[],xs,e,h=>by cases v<;>simp [zrU] at e
 | v::vs,j::ks,xs,e,h=>by
  cases v<;>simp only [zrU,Bool.and_eq_true] at e<;>try (cases e;done)
  rename_i k
  cases h with
  | cons h t=>
   cases h
   rw [zuj e.2 t,Nat.eq_of_beq_eq_true e.1]
   rfl
def Orac (P:Program) (f:Nat) (ks:List Nat) {γ:Type} [Enc γ] (o:γ):Prop:=
 ∀w,Amb.I w->Does P f (ks.map slv).toArray w fun x w'=>(∀ρ,VR ρ (enc o) x)/\Below w.heap.size w w'
def Ent.orac {P:Program} (f:Nat) (ks:List Nat) {γ:Type} [Enc γ] (o:γ) (h:Orac P f ks o):Ent P where
 id:=f
 g:=fun vs _=>zrU vs ks
 fn:=fun vs _=>bif zrU vs ks then some (enc o) else none
 ok:=fun vs m v hg hf w0 ρ xs w hv hm=>by
  simp only [hg,cond_true,Option.some.injEq] at hf
  subst hf
  rw [zuj hg hv]
  exact (h w (hm.amb w (Below.refl _ _)).1).mono fun v w' k=>⟨k.1 ρ,k.2⟩
def zui:List V->List Int->Bool
 | [],[]=>true
 | .i64 n::vs,c::cs=>(n.val==c)&&zui vs cs
 | _,_=>false
def zAn (k:Nat) (cs:List Int):List V->Bool
 | .arg j::vs=>Nat.beq j k&&zui vs cs
 | _=>false
theorem zuh {ρ:Nat->Option Nat}:∀ {vs:List V} {cs:List Int} {xs:List Value},zui vs cs=true->VRs ρ vs xs->xs=cs.map (Value.int .i64)
 | [],[],xs,_,h=>by cases h;rfl
 | [],_::_,xs,e,h=>by simp [zui] at e
 | v::vs,[],xs,e,h=>by cases v<;>simp [zui] at e
 | v::vs,c::cs,xs,e,h=>by
  cases v<;>simp only [zui,Bool.and_eq_true,beq_iff_eq] at e<;>try (cases e;done)
  cases h with
  | cons h t=>
   cases h
   rw [zuh e.2 t,e.1]
   rfl
def zFO (P:Program) (f k:Nat) (cs:List Int) {γ:Type} [Enc γ] (o:γ):Prop:=
 ∀w,Amb.I w->Does P f (slv k::cs.map (Value.int .i64)).toArray w fun x w'=>(∀ρ,VR ρ (enc o) x)/\Below w.heap.size w w'
def Ent.oracC {P:Program} (f k:Nat) (cs:List Int) {γ:Type} [Enc γ] (o:γ) (h:zFO P f k cs o):Ent P where
 id:=f
 g:=fun vs _=>zAn k cs vs
 fn:=fun vs _=>bif zAn k cs vs then some (enc o) else none
 ok:=fun vs m v hg hf w0 ρ xs w hv hm=>by
  simp only [hg,cond_true,Option.some.injEq] at hf
  subst hf
  have e:xs=slv k::cs.map (Value.int .i64):=by
   cases vs with
   | nil=>simp [zAn] at hg
   | cons v vs=>
    cases v<;>simp only [zAn,Bool.and_eq_true] at hg<;>try (cases hg;done)
    cases hv with
    | cons h1 t=>
     cases h1
     rw [zuh hg.2 t,Nat.eq_of_beq_eq_true hg.1]
     rfl
  rw [e]
  exact (h w (hm.amb w (Below.refl _ _)).1).mono fun v w' k=>⟨k.1 ρ,k.2⟩
theorem zDH {P:Program} (b:Bod P) {xs:Array Value} {w:World} {R:Value->World->Prop} (h:Calls P b.id xs w fun e w'=>∃x,e= .returned x/\R x w'):Does P b.id xs w R:=by
 intro o a next Q hn
 rw [zen,Oper.upon_enter]
 exact h.mono fun e w' he=>by obtain ⟨x,rfl,hx⟩:=he;exact hn x w' hx
theorem zC4 {P:Program} {t:Tb P} {b:Bod P} {ks:List Nat} {y:Bool} (h:t.run b (ks.map V.arg) Bool=some y) {w:World} (ha:Am w):
  Calls P b.id (ks.map slv).toArray w fun e w'=>e= .returned (.bool y)/\Below w.heap.size w w':=by
 have hv:∀ks:List Nat,VRs (fun _=>none) (ks.map V.arg) (ks.map slv):=by
  intro ks
  induction ks with
  | nil=>exact .nil
  | cons k ks ih=>exact .cons (.arg k) ih
 have hp:∀ks:List Nat,V.pfs (ks.map V.arg)=true:=by
  intro ks
  induction ks with
  | nil=>rfl
  | cons k ks ih=>simpa [V.pfs,V.pf] using ih
 refine (Tb.run_sound h (hv ks) (hp ks) ha).mono fun e w' he=>?_
 obtain ⟨x,rfl,h1,h2⟩:=he
 have:=h1 fun _=>none
 cases this
 exact ⟨rfl,h2⟩
end Go.Proofs.YtkenfaengphiiaaGreatDoor.Ev
