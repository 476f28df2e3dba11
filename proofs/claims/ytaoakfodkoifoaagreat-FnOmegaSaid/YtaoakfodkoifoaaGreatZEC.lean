/- The law FnOmega gives true, whatever comes in; each argument reads behind the call as it read before. No conditions. (One of the texts of its proof, put together by a program of this session.) -/
import Derived.Test.YtaoakfodkoifoaaGreatZEB
import Derived.ProofKit
import Derived.Laws.Externs
import Derived.KernelRfl
set_option linter.unusedSectionVars false
set_option linter.unusedSimpArgs false
set_option linter.unusedVariables false
namespace Go.Proofs.YtaoakfodkoifoaaGreat.Ev
open Go Go.RowKit Go.ChangeShapes Go.WideShapes
variable [Amb]
inductive Lk where|bool|i64|u64|u8|str
def V.lk:V->Option Lk
 | .bool _=>some .bool
 | .i64 _=>some .i64
 | .u64 _=>some .u64
 | .u8 _=>some .u8
 | .str _=>some .str
 | _=>none
def zHM (P:Program) (rec:TypeId->Option (List Lk)):List Field->Nat->Option (List Lk)
 | [],_=>some []
 | f::fs,off=>match rec f.type with
  | some ks=>bif Nat.beq f.offset off&&Nat.beq (P.cellsOf f.type) ks.length then match zHM P rec fs (off+ks.length) with
    | some r=>some (ks++r)
    | none=>none
   else none
  | none=>none
def zQQ (P:Program):Nat->TypeId->Option (List Lk)
 | 0,_=>none
 | n+1,t=>match P.underlying t with
  | some .bool=>some [.bool]
  | some (.int .i64)=>some [.i64]
  | some (.int .u64)=>some [.u64]
  | some (.int .u8)=>some [.u8]
  | some .string=>some [.str]
  | some (.struct fs)=>match zHM P (zQQ P n) fs.toList 0 with
   | some ks=>bif Nat.beq (P.cellsOf t) ks.length then some ks else none
   | none=>none
  | _=>none
section
variable {H:Type} {enc:TypeId×Value->H} {P:Program} {w:World} {base:Nat} {spare:Nat->Bool} {held:Bool} {ρ:Nat->Option Nat}
class Arg (α:Type) extends Enc α where
 ks:List Lk
 agg:Bool
 of:∀vs:List V,vs.map V.lk=ks.map some->∃x:α,(bif agg then .agg vs else oneV vs)=enc x
end
theorem zgb {v:V} (h:v.lk=some .i64):∃x,v= .i64 x:=by cases v<;>simp [V.lk] at h;exact ⟨_,rfl⟩
theorem zMc {v:V} (h:v.lk=some .bool):∃x,v= .bool x:=by cases v<;>simp [V.lk] at h;exact ⟨_,rfl⟩
theorem zNO {v:V} (h:v.lk=some .str):∃x,v= .str x:=by cases v<;>simp [V.lk] at h;exact ⟨_,rfl⟩
theorem map_cons {vs:List V} {k:Option Lk} {ks:List (Option Lk)} (h:vs.map V.lk=k::ks):∃v us,vs=v::us/\v.lk=k/\us.map V.lk=ks:=by
 cases vs with
 | nil=>cases h
 | cons v us=>simp at h;exact ⟨v,us,rfl,h.1,h.2⟩
theorem map_nil {vs:List V} (h:vs.map V.lk= []):vs= []:=by simpa using h
instance:Arg I64 where
 ks:= [.i64]
 agg:=false
 of:=fun vs h=>by
  obtain ⟨v,us,rfl,h,hn⟩:=map_cons h;obtain ⟨a,rfl⟩:=zgb h;cases map_nil hn;exact ⟨a,rfl⟩
instance:Arg Bool where
 ks:= [.bool]
 agg:=false
 of:=fun vs h=>by
  obtain ⟨v,us,rfl,h,hn⟩:=map_cons h;obtain ⟨a,rfl⟩:=zMc h;cases map_nil hn;exact ⟨a,rfl⟩
instance:Arg ByteArray where
 ks:= [.str]
 agg:=false
 of:=fun vs h=>by
  obtain ⟨v,us,rfl,h,hn⟩:=map_cons h;obtain ⟨a,rfl⟩:=zNO h;cases map_nil hn;exact ⟨a,rfl⟩
instance:Arg Iv where
 ks:= [.i64,.i64]
 agg:=true
 of:=fun vs h=>by
  obtain ⟨v,us,rfl,k1,h1⟩:=map_cons h;obtain ⟨a,rfl⟩:=zgb k1
  obtain ⟨v,us,rfl,k1,h2⟩:=map_cons h1;obtain ⟨b,rfl⟩:=zgb k1
  cases map_nil h2;exact ⟨⟨a,b⟩,rfl⟩
instance:Arg zaA where
 ks:= [.i64,.i64]
 agg:=true
 of:=fun vs h=>by
  obtain ⟨v,us,rfl,k1,h1⟩:=map_cons h;obtain ⟨a,rfl⟩:=zgb k1
  obtain ⟨v,us,rfl,k1,h2⟩:=map_cons h1;obtain ⟨b,rfl⟩:=zgb k1
  cases map_nil h2;exact ⟨⟨a,b⟩,rfl⟩
instance:Arg Place where
 ks:= [.i64,.i64,.i64]
 agg:=true
 of:=fun vs h=>by
  obtain ⟨v,us,rfl,k1,h1⟩:=map_cons h;obtain ⟨a,rfl⟩:=zgb k1
  obtain ⟨v,us,rfl,k1,h2⟩:=map_cons h1;obtain ⟨b,rfl⟩:=zgb k1
  obtain ⟨v,us,rfl,k1,h3⟩:=map_cons h2;obtain ⟨c,rfl⟩:=zgb k1
  cases map_nil h3;exact ⟨⟨⟨a,b⟩,c⟩,rfl⟩
instance:Arg Ell where
 ks:= [.i64,.i64,.i64]
 agg:=true
 of:=fun vs h=>by
  obtain ⟨v,us,rfl,k1,h1⟩:=map_cons h;obtain ⟨a,rfl⟩:=zgb k1
  obtain ⟨v,us,rfl,k1,h2⟩:=map_cons h1;obtain ⟨b,rfl⟩:=zgb k1
  obtain ⟨v,us,rfl,k1,h3⟩:=map_cons h2;obtain ⟨c,rfl⟩:=zgb k1
  cases map_nil h3;exact ⟨⟨a,b,c⟩,rfl⟩
instance:Arg Proj where
 ks:= [.i64,.i64,.i64,.i64,.i64]
 agg:=true
 of:=fun vs h=>by
  obtain ⟨v,us,rfl,k1,h1⟩:=map_cons h;obtain ⟨a,rfl⟩:=zgb k1
  obtain ⟨v,us,rfl,k1,h2⟩:=map_cons h1;obtain ⟨b,rfl⟩:=zgb k1
  obtain ⟨v,us,rfl,k1,h3⟩:=map_cons h2;obtain ⟨c,rfl⟩:=zgb k1
  obtain ⟨v,us,rfl,k1,h4⟩:=map_cons h3;obtain ⟨d,rfl⟩:=zgb k1
  obtain ⟨v,us,rfl,k1,h5⟩:=map_cons h4;obtain ⟨e,rfl⟩:=zgb k1
  cases map_nil h5;exact ⟨⟨a,b,c,d,e⟩,rfl⟩
instance:Arg zBU where
 ks:= [.i64,.i64,.i64,.i64]
 agg:=true
 of:=fun vs h=>by
  obtain ⟨v,us,rfl,k1,h1⟩:=map_cons h;obtain ⟨a,rfl⟩:=zgb k1
  obtain ⟨v,us,rfl,k1,h2⟩:=map_cons h1;obtain ⟨b,rfl⟩:=zgb k1
  obtain ⟨v,us,rfl,k1,h3⟩:=map_cons h2;obtain ⟨c,rfl⟩:=zgb k1
  obtain ⟨v,us,rfl,k1,h4⟩:=map_cons h3;obtain ⟨d,rfl⟩:=zgb k1
  cases map_nil h4;exact ⟨⟨⟨a,b⟩,⟨c,d⟩⟩,rfl⟩
instance:Arg Vec where
 ks:= [.i64,.i64,.i64,.i64,.i64,.i64]
 agg:=true
 of:=fun vs h=>by
  obtain ⟨v,us,rfl,k1,h1⟩:=map_cons h;obtain ⟨a,rfl⟩:=zgb k1
  obtain ⟨v,us,rfl,k1,h2⟩:=map_cons h1;obtain ⟨b,rfl⟩:=zgb k1
  obtain ⟨v,us,rfl,k1,h3⟩:=map_cons h2;obtain ⟨c,rfl⟩:=zgb k1
  obtain ⟨v,us,rfl,k1,h4⟩:=map_cons h3;obtain ⟨d,rfl⟩:=zgb k1
  obtain ⟨v,us,rfl,k1,h5⟩:=map_cons h4;obtain ⟨e,rfl⟩:=zgb k1
  obtain ⟨v,us,rfl,k1,h6⟩:=map_cons h5;obtain ⟨f,rfl⟩:=zgb k1
  cases map_nil h6;exact ⟨⟨⟨a,b⟩,⟨c,d⟩,⟨e,f⟩⟩,rfl⟩
end Go.Proofs.YtaoakfodkoifoaaGreat.Ev
/-
 A small evaluator for the program's code: the two functions of math/bits that have no body;tables of loops.
-/
namespace Go.Proofs.YtaoakfodkoifoaaGreat.Ev
open Go Go.RowKit
variable [Amb]
section
variable {P:Program}
def Ent.ofV3 {γ:Type} [Enc γ] (id:Nat) (G:U64->U64->U64->Bool) (F:U64->U64->U64->γ)
  (h:∀(x y z:U64) (w:World),G x y z=true->∃v,(callFunc id #[.int .u64 x.val,.int .u64 y.val,.int .u64 z.val]).run P w= .ok (.value v) w/\∀ρ,VR ρ (enc (F x y z)) v):Ent P where
 id:=id
 g:=fun vs _=>match vs with
  | [x,y,z]=>match (dec x:Option U64),(dec y:Option U64),(dec z:Option U64) with
   | some x,some y,some z=>G x y z
   | _,_,_=>false
  | _=>false
 fn:=fun vs _=>match vs with
  | [x,y,z]=>match (dec x:Option U64),(dec y:Option U64),(dec z:Option U64) with
   | some x,some y,some z=>some (enc (F x y z))
   | _,_,_=>none
  | _=>none
 ok:=fun vs m v hg hf w0 ρ xs w hv hm=>by
  split at hf<;>try (cases hf;done)
  split at hf<;>try (cases hf;done)
  rename_i x y z hx hy hz
  cases hf
  simp only [hx,hy,hz] at hg
  have e1:=Enc.dec_enc _ _ hx
  have e2:=Enc.dec_enc _ _ hy
  have e3:=Enc.dec_enc _ _ hz
  subst e1;subst e2;subst e3
  cases hv with
  | cons h1 hv=>cases hv with
   | cons h2 hv=>cases hv with
    | cons h3 hv=>cases hv with
     | nil=>
      cases h1;cases h2;cases h3
      obtain ⟨v,k1,k2⟩:=h x y z w hg
      exact zFU k1 ⟨k2 ρ,Below.refl _ _⟩
def zeF (x y c:U64):T2 U64 U64:=⟨.w .u64 (x.val+y.val+c.val),.w .u64 ((x.val+y.val+c.val)/18446744073709551616)⟩
def zfZ (x y c:U64):T2 U64 U64:=⟨.w .u64 (x.val-y.val-c.val),.w .u64 (if x.val<y.val+c.val then 1 else 0)⟩
def zs8 (_ _ c:U64):Bool:=decide (c.val<=1)
theorem ztn (n:Int):IntKind.u64.wrap n=n%18446744073709551616:=by
 simp [IntKind.wrap,IntKind.bits,IntKind.signed]
def Ent.add64 {f : Nat} {fn : Func} (hf : P.funcs[f]? = some fn) (hname : (fn.name == "runtime.NumGoroutine") = false) (hb : fn.body.isNone = true) (hn : Extern.findNext fn = none)
  (he:Extern.find fn=some (Extern.MathBitsCarry.rows.head (by decide)).2):Ent P:= .ofV3 f zs8 zeF fun x y z w hg=>by
 have hz:z.val<=1:=by simpa [zs8] using hg
 have b1:=x.ubd;have b2:=y.ubd;have b3:=z.ubd
 refine ⟨_,?_,fun ρ=> .tup (.cons (.u64 _) (.cons (.u64 _) .nil))⟩
 rw [run_callFunc_extern hf hname hb hn he]
 have:=run_add64 (P:=P) x.val y.val z.val b1.1 b2.1 b3.1 hz w
 show ((add64Entry #[.int .u64 x.val,.int .u64 y.val,.int .u64 z.val]).run P w).andThen _=_
 rw [this]
 simp only [Result.andThen_ok,zeF,Rng.val_w,ztn]
 have:(x.val+y.val+z.val)/18446744073709551616%18446744073709551616=(x.val+y.val+z.val)/18446744073709551616:=by omega
 rw [this]
theorem zLo (x y b:Nat) (hb:b<=1) (w:World):((Extern.MathBitsCarry.rows.getLast (by decide)).2 #[.int .u64 x,.int .u64 y,.int .u64 b]).run P w=
  .ok (.tuple #[.int .u64 (((x+18446744073709551616-y-b)%18446744073709551616:Nat):Int),.int .u64 ((if x<y+b then 1 else 0:Nat):Int)]) w:=by
 have:b=0\/b=1:=by omega
 rcases this with rfl|rfl<;>rfl
def Ent.sub64 {f : Nat} {fn : Func} (hf : P.funcs[f]? = some fn) (hname : (fn.name == "runtime.NumGoroutine") = false) (hb : fn.body.isNone = true) (hn : Extern.findNext fn = none)
  (he:Extern.find fn=some (Extern.MathBitsCarry.rows.getLast (by decide)).2):Ent P:= .ofV3 f zs8 zfZ fun x y z w hg=>by
 have hz:z.val<=1:=by simpa [zs8] using hg
 have b1:=x.ubd;have b2:=y.ubd;have b3:=z.ubd
 refine ⟨_,?_,fun ρ=> .tup (.cons (.u64 _) (.cons (.u64 _) .nil))⟩
 rw [run_callFunc_extern hf hname hb hn he]
 obtain ⟨a,ha⟩:=Int.eq_ofNat_of_zero_le b1.1
 obtain ⟨b,hb⟩:=Int.eq_ofNat_of_zero_le b2.1
 obtain ⟨c,hc⟩:=Int.eq_ofNat_of_zero_le b3.1
 simp only [zfZ,Rng.val_w,ztn]
 rw [ha,hb,hc]
 rw [ha] at b1;rw [hb] at b2;rw [hc] at b3 hz
 rw [zLo a b c (by omega)]
 have e1:(((a+18446744073709551616-b-c)%18446744073709551616:Nat):Int)=((a:Int)-b-c)%18446744073709551616:=by omega
 have e2:((if a<b+c then 1 else 0:Nat):Int)=(if (a:Int)<b+c then 1 else 0)%18446744073709551616:=by split<;>split<;>omega
 rw [e1,e2]
 rfl
def zGW:Operand->List ByteArray
 | .const (.string s)=> [s]
 | _=> []
def zoG:Code->List ByteArray
 | .seq a b=>zoG a++zoG b
 | .cond x a b=>zGW x++(zoG a++zoG b)
 | .block _ a=>zoG a
 | .loop a=>zoG a
 | .region _ ops _=>ops.toList.flatMap fun o=>o.op.operands.toList.flatMap zGW
 | _=> []
theorem zvP {α:Type} {nx:Nat}:∀ {l:List (Nat×α)} {b:Nat} {c:α},(l.map (·.1)).all (fun b=>Nat.blt b nx)=true->lk l b=some c->b<nx
 | [],b,c,_,h=>by simp [lk] at h
 | (k,v)::t,b,c,ha,h=>by
  simp only [List.map_cons,List.all_cons,Bool.and_eq_true] at ha
  simp only [zbz] at h
  by_cases hk:k=b
  ·subst hk;simpa using ha.1
  ·rw [if_neg hk] at h;exact zvP ha.2 h
def zo2 (c:Code) (i:Nat):Code:=(zeV c).getD i .skip
theorem zar.of {c:Code} {ks:List Nat} (hk:(zeV c).map key=ks) {lt:LT} (h:∀i k,ks[i]?=some k->∀f,lt k=some f->zkp P (zo2 c i) f):
  ∀c'∈zeV c,∀f,lt (key c')=some f->zkp P c' f:=by
 intro c' hc f hf
 obtain ⟨i,hi,he⟩:=List.getElem_of_mem hc
 have:=h i (key c') (by rw [<- hk];simp [hi,he]) f hf
 unfold zo2 at this
 simpa [List.getD,hi,he] using this
def ltOf:List (Nat×LpF)->LT
 | [],_=>none
 | (k,f)::t,n=>bif Nat.beq k n then some f else ltOf t n
end
end Go.Proofs.YtaoakfodkoifoaaGreat.Ev
/-
 A small evaluator for the program's code: entries of closures that read what they have captured.
-/
namespace Go.Proofs.YtaoakfodkoifoaaGreat.Ev
open Go Go.RowKit
variable [Amb]
class Cap (δ:Type) where
 ec:δ->List V
 dc:List V->Option δ
 dc_ec:∀cs d,dc cs=some d->cs=ec d
 pf:∀d,V.pfs (ec d)=true
structure zz4 (k:Nat) where
instance (k:Nat):Cap (zz4 k) where
 ec:=fun _=> [.fn k []]
 dc:=fun cs=>match cs with
  | [.fn f []]=>bif Nat.beq f k then some ⟨⟩ else none
  | _=>none
 dc_ec:=fun cs d h=>by
  split at h<;>try (cases h;done)
  rename_i f
  cases hf:Nat.beq f k with
  | false=>simp [hf] at h
  | true=>rw [Nat.eq_of_beq_eq_true hf]
 pf:=fun _=>rfl
instance {α:Type} [Flat α]:Cap α where
 ec:=Flat.put
 dc:=fun cs=>match Flat.get (α:=α) cs with
  | some (x,[])=>some x
  | _=>none
 dc_ec:=fun cs d h=>by
  split at h<;>try (cases h;done)
  rename_i h1
  cases h
  have:=Flat.get_put _ _ _ h1
  rw [this];simp
 pf:=Flat.pf
section
variable {P:Program}
def zlr (t:Tb P) (b:Bod P) (vs:List V) (blks:List (Nat×List V)) (n:Nat) (γ:Type) [Enc γ]:Option γ:=
 runk t.T (zoH t.T (fun _=>t.drw) t.Es t.Bs t.N t.d) t.drw t.N b vs ⟨blks,n,n⟩ fun v _=>dec v
theorem zq8 {t:Tb P} {b:Bod P} {vs:List V} {blks:List (Nat×List V)} {n:Nat} {γ:Type} [Enc γ] {y:γ} (h:zlr t b vs blks n γ=some y) {ρ1:Nat->Option Nat} {xs:List Value} {w:World}
  (hv:VRs ρ1 vs xs) (hm:MRel w ρ1 ⟨blks,n,n⟩ w):Does P b.id xs.toArray w fun x w'=>(∀ρ,VR ρ (enc y) x)/\Below w.heap.size w w':=by
 intro o a next Q hn
 rw [zfv,Oper.upon_enter]
 refine (zp3 (w0:=w) (zh7 (fun _ _=>t.zdO w) t.d) (t.zdO w) h hv hm).mono fun e w' he=>?_
 obtain ⟨v,m',ρ',x,rfl,h1,h2,h3,h4⟩:=he
 have:=Enc.dec_enc _ _ h4
 subst this
 exact hn x w' ⟨fun ρ=>h2.pf (Enc.pf y),h3.bel⟩
def Ent.cap1 {α δ γ:Type} [Enc α] [Cap δ] [Enc γ] (t:Tb P) (b:Bod P) (G:α->δ->Bool) (F:α->δ->γ)
  (h:∀x d,G x d=true->zlr t b [enc x,.ptr 0 0] [(0,Cap.ec d)] 1 γ=some (F x d)):Ent P where
 id:=b.id
 g:=fun vs blks=>match vs with
  | [x,.ptr k 0]=>match (dec x:Option α),lk blks k with
   | some x,some cs=>match (Cap.dc cs:Option δ) with
    | some d=>G x d
    | none=>false
   | _,_=>false
  | _=>false
 fn:=fun vs blks=>match vs with
  | [x,.ptr k 0]=>match (dec x:Option α),lk blks k with
   | some x,some cs=>match (Cap.dc cs:Option δ) with
    | some d=>some (enc (F x d))
    | none=>none
   | _,_=>none
  | _=>none
 ok:=fun vs m v hg hf w0 ρ xs w hv hm=>by
  split at hf<;>try (cases hf;done)
  rename_i x0 k
  split at hf<;>try (cases hf;done)
  rename_i x cs hx hk
  split at hf<;>try (cases hf;done)
  rename_i d hd
  cases hf
  simp only [hx,hk,hd] at hg
  have e1:=Enc.dec_enc _ _ hx
  have e2:=Cap.dc_ec _ _ hd
  subst e1;subst e2
  obtain ⟨r,ys,ty,hr,hrow,hys⟩:=hm.blk k _ hk
  cases hv with
  | cons h1 ht=>cases ht with
   | cons h2 ht=>cases ht with
    | nil=>
     cases h2
     rename_i r' hr'
     rw [hr] at hr';cases hr'
     have h0:(fun b=>if b=0 then some r else none:Nat->Option Nat) 0=some r:=rfl
     refine (zq8 (ρ1:=fun b=>if b=0 then some r else none) (h x d hg) (.cons (h1.pf (Enc.pf x)) (.cons (.ptr h0) .nil)) ⟨fun b cs hb=>?_,?_,?_,?_,?_,Below.refl _ _,Nat.le_refl _,hm.amb⟩).mono fun v w' hh=>⟨hh.1 ρ,hh.2⟩
     ·simp only [zbz] at hb
      by_cases hb0:0=b
      ·subst hb0;simp at hb;subst hb
       exact ⟨r,ys,ty,h0,hrow,hys.pf (Cap.pf d)⟩
      ·rw [if_neg hb0] at hb;simp [lk] at hb
     ·intro b b' q h3 h4;split at h3<;>split at h4<;>simp_all
     ·intro b hb;rw [if_neg (by simp at hb;omega)]
     ·intro b q hq
      split at hq
      ·cases hq;exact hm.dom _ _ hr
      ·cases hq
     ·intro b q hb hq;rw [if_neg (by simp at hb;omega)] at hq;cases hq
def Ent.cap2 {α δ ε γ:Type} [Enc α] [Cap δ] [Cap ε] [Enc γ] (t:Tb P) (b:Bod P) (G:α->δ->ε->Bool) (F:α->δ->ε->γ)
  (h:∀x d c,G x d c=true->zlr t b [enc x,.ptr 0 0,.ptr 1 0] [(0,Cap.ec d),(1,Cap.ec c)] 2 γ=some (F x d c)):Ent P where
 id:=b.id
 g:=fun vs blks=>match vs with
  | [x,.ptr k 0,.ptr j 0]=>match (dec x:Option α),lk blks k,lk blks j with
   | some x,some cs,some cs'=>match (Cap.dc cs:Option δ),(Cap.dc cs':Option ε) with
    | some d,some c=>bif Nat.beq k j then false else G x d c
    | _,_=>false
   | _,_,_=>false
  | _=>false
 fn:=fun vs blks=>match vs with
  | [x,.ptr k 0,.ptr j 0]=>match (dec x:Option α),lk blks k,lk blks j with
   | some x,some cs,some cs'=>match (Cap.dc cs:Option δ),(Cap.dc cs':Option ε) with
    | some d,some c=>some (enc (F x d c))
    | _,_=>none
   | _,_,_=>none
  | _=>none
 ok:=fun vs m v hg hf w0 ρ xs w hv hm=>by
  split at hf<;>try (cases hf;done)
  rename_i x0 k j
  split at hf<;>try (cases hf;done)
  rename_i x cs cs' hx hk hj
  split at hf<;>try (cases hf;done)
  rename_i d c hd hc
  cases hf
  simp only [hx,hk,hj,hd,hc] at hg
  cases hkj:Nat.beq k j with
  | true=>simp [hkj] at hg
  | false=>
   simp only [hkj,cond_false] at hg
   have hne:k≠j:=fun e=>by subst e;simp at hkj
   have e1:=Enc.dec_enc _ _ hx
   have e2:=Cap.dc_ec _ _ hd
   have e3:=Cap.dc_ec _ _ hc
   subst e1;subst e2;subst e3
   obtain ⟨r,ys,ty,hr,hrow,hys⟩:=hm.blk k _ hk
   obtain ⟨q,zs,ty',hq,hrow',hzs⟩:=hm.blk j _ hj
   have hrq:r≠q:=fun e=>hne (hm.inj k j r hr (e▸hq))
   cases hv with
   | cons h1 ht=>cases ht with
    | cons h2 ht=>cases ht with
     | cons h3 ht=>cases ht with
      | nil=>
       cases h2
       rename_i r' hr'
       rw [hr] at hr';cases hr'
       cases h3
       rename_i q' hq'
       rw [hq] at hq';cases hq'
       have h0:(fun b=>if b=0 then some r else if b=1 then some q else none:Nat->Option Nat) 0=some r:=rfl
       have h1':(fun b=>if b=0 then some r else if b=1 then some q else none:Nat->Option Nat) 1=some q:=rfl
       refine (zq8 (ρ1:=fun b=>if b=0 then some r else if b=1 then some q else none) (h x d c hg) (.cons (h1.pf (Enc.pf x)) (.cons (.ptr h0) (.cons (.ptr h1') .nil))) ⟨fun b cs hb=>?_,?_,?_,?_,?_,Below.refl _ _,Nat.le_refl _,hm.amb⟩).mono fun v w' hh=>⟨hh.1 ρ,hh.2⟩
       ·simp only [zbz] at hb
        by_cases hb0:0=b
        ·subst hb0;simp at hb;subst hb
         exact ⟨r,ys,ty,h0,hrow,hys.pf (Cap.pf d)⟩
        ·rw [if_neg hb0] at hb
         by_cases hb1:1=b
         ·subst hb1;simp at hb;subst hb
          exact ⟨q,zs,ty',h1',hrow',hzs.pf (Cap.pf c)⟩
         ·rw [if_neg hb1] at hb;simp [lk] at hb
       ·intro b b' u h4 h5
        split at h4<;>split at h5<;>(try split at h4)<;>(try split at h5)<;>simp_all
       ·intro b hb;rw [if_neg (by simp at hb;omega),if_neg (by simp at hb;omega)]
       ·intro b u hu
        split at hu
        ·cases hu;exact hm.dom _ _ hr
        ·split at hu
         ·cases hu;exact hm.dom _ _ hq
         ·cases hu
       ·intro b u hb hu;rw [if_neg (by simp at hb;omega),if_neg (by simp at hb;omega)] at hu;cases hu
def ordL {A:Type} (T:List (TyE P)) (call:zmX A):List Oper->St->(St->Option A)->Option A
 | [],s,K=>K s
 | o::rest,s,K=>bif s.fits o.dst then opk T call s o (fun v m=>ordL T call rest (s.put o.dst v m) K) else none
def chain (P:Program) (Q:Exit->Act->World->Prop):List Oper->Act->World->Prop
 | [],a,w=>Q .normal a w
 | o::rest,a,w=>o.wp P a w (chain P Q rest) Q
theorem zsL {A:Type} {T:List (TyE P)} {call:zmX A} {w0:World} (hcall:zqJ P w0 call) {Q:Exit->Act->World->Prop} {r:A}:∀(l:List Oper) (s:St) (K:St->Option A),ordL T call l s K=some r->
  ∀(ρ:Nat->Option Nat) (a:Act) (w:World),Rel w0 ρ s a w->(∀s' ρ' a' w',Ext ρ ρ'->Rel w0 ρ' s' a' w'->K s'=some r->Q .normal a' w')->chain P Q l a w
 | [],s,K,h,ρ,a,w,hr,hq=>hq s ρ a w (Ext.refl _) hr h
 | o::rest,s,K,h,ρ,a,w,hr,hq=>by
  simp only [ordL] at h
  cases hf:s.fits o.dst with
  | false=>simp [hf] at h
  | true=>
   simp only [hf,cond_true] at h
   refine zpA hcall h hr fun v m' ρ' x w' e hv hm _ hk=>?_
   exact zsL hcall rest _ K hk ρ' _ w' (hr.put e hv hf hm) fun s' ρ'' a' w'' e' h1 h2=>hq s' ρ'' a' w'' (e.trans e') h1 h2
def forced (ops:Array Oper):List Nat->Array Bool->Bool
 | [],listed=>(Region.ready .any ops listed).isEmpty
 | i::t,listed=>(match Region.ready .any ops listed with
  | [j]=>Nat.beq i j
  | _=>false)&&(match ops[i]? with
  | some o=>o.guard.isNone
  | none=>false)&&forced ops t (listed.setIfInBounds i true)
def zzB (ops:Array Oper) (l:List Nat):List Oper:=l.map fun i=>ops.getD i default
theorem zyX {ops:Array Oper} {Q:Exit->Act->World->Prop} {i:Nat} {a:Act} {w:World} {K:Act->World->Prop} (hg:(match ops[i]? with
  | some o=>o.guard.isNone
  | none=>false)=true) (h:(ops.getD i default).wp P a w K Q):wpOp P ops Q i K a w:=by
 unfold wpOp
 cases ho:ops[i]? with
 | none=>simp [ho] at hg
 | some o=>
  rw [ho] at hg
  have hgd:ops.getD i default=o:=by simp [Array.getD_eq_getD_getElem?,ho]
  rw [hgd] at h
  have hgn:o.guard=none:=by simpa using hg
  have hw:Region.wanted o (yielded ops a.tmps)=true:=by simp [Region.wanted,hgn]
  simp only [hw,if_true]
  exact .inl h
theorem zs2 {ops:Array Oper} {Q:Exit->Act->World->Prop}:∀(l:List Nat) (listed:Array Bool) (a:Act) (w:World),forced ops l listed=true->chain P Q (zzB ops l) a w->wpAny P .any ops Q l.length listed a w
 | [],listed,a,w,hf,h=>⟨by simpa [forced] using hf,h⟩
 | i::t,listed,a,w,hf,h=>by
  simp only [forced,Bool.and_eq_true] at hf
  obtain ⟨⟨h1,h2⟩,h3⟩:=hf
  cases hrd:Region.ready .any ops listed with
  | nil=>rw [hrd] at h1;simp at h1
  | cons j tl=>
   cases tl with
   | cons k tl'=>rw [hrd] at h1;simp at h1
   | nil=>
    rw [hrd] at h1
    have hij:=Nat.eq_of_beq_eq_true h1
    subst hij
    refine ⟨fun hn=>(by rw [hrd] at hn;cases hn),fun k hk=>?_⟩
    rw [hrd] at hk
    simp at hk;subst hk
    refine zyX h2 (Oper.wp_mono (K:=chain P Q (zzB ops t)) ?_ h)
    intro a' w' h'
    exact zs2 t _ a' w' h3 h'
def zIX (ops:Array Oper) (i j:Nat) (l1 l2:List Nat):Bool:=
 (match Region.ready .any ops (Array.replicate ops.size false) with
  | [x,y]=>Nat.beq x i&&Nat.beq y j
  | _=>false)&&(match ops[i]? with
  | some o=>o.guard.isNone
  | none=>false)&&(match ops[j]? with
  | some o=>o.guard.isNone
  | none=>false)&&forced ops l1 ((Array.replicate ops.size false).setIfInBounds i true)&&forced ops l2 ((Array.replicate ops.size false).setIfInBounds j true)&&Nat.beq (l1.length+1) ops.size&&Nat.beq (l2.length+1) ops.size
theorem Rel.drew {w0:World} {ρ:Nat->Option Nat} {s:St} {a:Act} {w:World} (h:Rel w0 ρ s a w):Rel w0 ρ s a w.drew:=
 ⟨h.tm,h.sz,h.df,⟨h.mr.blk,h.mr.inj,h.mr.fresh,h.mr.dom,h.mr.own,h.mr.bel.drew,h.mr.lon,h.mr.am⟩⟩
theorem zKc {A:Type} {T:List (TyE P)} {call:zmX A} {w0:World} (hcall:zqJ P w0 call) (hm:P.follows .mixedOrders=true) {id:Nat} {ops:Array Oper} {i j:Nat} {l1 l2:List Nat} (hz:zIX ops i j l1 l2=true) {s:St} {K:St->Option A} {r:A}
  (h1:ordL T call (zzB ops (i::l1)) s K=some r) (h2:ordL T call (zzB ops (j::l2)) s K=some r) {ρ:Nat->Option Nat} {a:Act} {w:World} {Q:Exit->Act->World->Prop} (hr:Rel w0 ρ s a w)
  (hq:∀s' ρ' a' w',Ext ρ ρ'->Rel w0 ρ' s' a' w'->K s'=some r->Q .normal a' w'):(Code.region id ops true).wp P Q a w:=by
 simp only [zIX,Bool.and_eq_true] at hz
 obtain ⟨⟨⟨⟨⟨⟨z1,z2⟩,z3⟩,z4⟩,z5⟩,z6⟩,z7⟩:=hz
 have c1:=zsL hcall _ s K h1 ρ a w.drew hr.drew hq
 have c2:=zsL hcall _ s K h2 ρ a w.drew hr.drew hq
 refine wp_region_any hm ?_
 have n1:=Nat.eq_of_beq_eq_true z6
 have n2:=Nat.eq_of_beq_eq_true z7
 suffices hh:wpAny P .any ops Q (l1.length+1) (Array.replicate ops.size false) a w.drew by rw [n1] at hh;exact hh
 refine ⟨fun hn=>?_,fun k hk=>?_⟩
 ·rw [hn] at z1;simp at z1
 ·have hk':k=i\/k=j:=by
   cases hrd:Region.ready .any ops (Array.replicate ops.size false) with
   | nil=>rw [hrd] at z1;simp at z1
   | cons x tl=>
    cases tl with
    | nil=>rw [hrd] at z1;simp at z1
    | cons y tl=>
     cases tl with
     | cons z tl=>rw [hrd] at z1;simp at z1
     | nil=>
      rw [hrd] at z1
      simp only [Bool.and_eq_true] at z1
      have e1:=Nat.eq_of_beq_eq_true z1.1
      have e2:=Nat.eq_of_beq_eq_true z1.2
      rw [hrd] at hk
      simp at hk
      omega
  rcases hk' with rfl|rfl
  ·refine zyX z2 (Oper.wp_mono (K:=chain P Q (zzB ops l1)) ?_ c1)
   intro a' w' h'
   exact zs2 l1 _ a' w' z4 h'
  ·refine zyX z3 (Oper.wp_mono (K:=chain P Q (zzB ops l2)) ?_ c2)
   intro a' w' h'
   have hl:l1.length=l2.length:=by omega
   rw [hl]
   exact zs2 l2 _ a' w' z5 h'
def zt2:Code->Code
 | .seq a _=>a
 | c=>c
def zDB:Code->Code
 | .seq _ b=>b
 | c=>c
def zsX:Code->Array Oper
 | .region _ ops _=>ops
 | _=>#[]
def zOd:Code->Nat
 | .region id _ _=>id
 | _=>0
def zuh (c:Code):Prop:=c= .seq (zt2 c) (.seq (.region (zOd (zt2 (zDB c))) (zsX (zt2 (zDB c))) true) .ret)
def zGk (t:Tb P) (b:Bod P) (vs:List V):Option (X×St):=
 evC (A:=X×St) t.T (zoH t.T (fun _=>t.drw) t.Es t.Bs t.N t.d) t.drw (fun _=>none) t.N (zt2 b.code) ⟨zipF 0 vs,b.fn.ntmps,⟨[],0,0⟩⟩ (fun x s=>some (x,s))
def zLi (t:Tb P) (b:Bod P) (vs:List V):St:=match zGk t b vs with
 | some (_,s)=>s
 | none=>⟨[],0,⟨[],0,0⟩⟩
def zxP (t:Tb P) (b:Bod P) (vs:List V) (l:List Nat) (γ:Type) [Enc γ]:Option γ:=
 ordL t.T (zoH t.T (fun _=>t.drw) t.Es t.Bs t.N t.d) (zzB (zsX (zt2 (zDB b.code))) l) (zLi t b vs) fun s'=>match resv t.T s' b.fn.results.toList with
  | some us=>dec (oneV us)
  | none=>none
theorem zLB {t:Tb P} {b:Bod P} {i j:Nat} {l1 l2:List Nat} (hsh:zuh b.code) (hz:zIX (zsX (zt2 (zDB b.code))) i j l1 l2=true) (hlp:∀c'∈zeV (zt2 b.code),False) {vs:List V} {γ:Type} [Enc γ] {y:γ} (s1:St)
  (hs1:evC (A:=X×St) t.T (zoH t.T (fun _=>t.drw) t.Es t.Bs t.N t.d) t.drw (fun _=>none) t.N (zt2 b.code) ⟨zipF 0 vs,b.fn.ntmps,⟨[],0,0⟩⟩ (fun x s=>some (x,s))=some (.norm,s1))
  (h1:ordL t.T (zoH t.T (fun _=>t.drw) t.Es t.Bs t.N t.d) (zzB (zsX (zt2 (zDB b.code))) (i::l1)) s1 (fun s'=>match resv t.T s' b.fn.results.toList with
    | some us=>(dec (oneV us):Option γ)
    | none=>none)=some y)
  (h2:ordL t.T (zoH t.T (fun _=>t.drw) t.Es t.Bs t.N t.d) (zzB (zsX (zt2 (zDB b.code))) (j::l2)) s1 (fun s'=>match resv t.T s' b.fn.results.toList with
    | some us=>(dec (oneV us):Option γ)
    | none=>none)=some y) (hle:vs.length<=b.fn.ntmps) (hp:V.pfs vs=true)
  {ρ:Nat->Option Nat} {xs:List Value} {w:World} (hv:VRs ρ vs xs) (ha:Am w):Does P b.id xs.toArray w fun x w'=>(∀ρ,VR ρ (enc y) x)/\Below w.heap.size w w':=by
 intro o a next Q hn
 rw [zfv,Oper.upon_enter]
 have hl:=hv.length
 have hv':VRs (fun _=>none) vs xs:=hv.pf hp
 refine Calls.mono (calls_of_wp (R:=fun e w'=>∃x,e= .returned x/\(∀ρ,VR ρ (enc y) x)/\Below w.heap.size w w') b.hf b.hb ?_) fun e w' he=>by
  obtain ⟨x,rfl,h3,h4⟩:=he
  exact hn x w' ⟨h3,h4⟩
 have hR:Rel w (fun _=>none) ⟨zipF 0 vs,b.fn.ntmps,⟨[],0,0⟩⟩ {tmps:=xs.toArray++Array.replicate (b.fn.ntmps-xs.toArray.size) undef,defers:= []} w:=by
  refine ⟨fun t v ht=>?_,by simp;omega,rfl,MRel.empty ha⟩
  obtain ⟨x,_,h1,h2⟩:=zys vs xs 0 t v hv' ht
  refine ⟨x,?_,h2⟩
  have hlt:t<xs.length:=by
   rcases Nat.lt_or_ge t xs.length with h|h
   ·exact h
   ·simp [List.getElem?_eq_none h] at h1
  have h1':xs[t]?=some x:=by simpa using h1
  simp only [Array.getElem?_append,List.size_toArray,hlt,if_true,List.getElem?_toArray,h1']
 rw [hsh]
 refine wp_seq (zlo (zh7 (fun _ _=>t.zdO w) t.d) (t.zdO w) _ (fun c' hc=>(hlp c' hc).elim) _ _ hs1 _ _ w _ hR fun x s' ρ' a' w' e hr' hk=>?_)
 simp only [Option.some.injEq,Prod.mk.injEq] at hk
 obtain ⟨rfl,rfl⟩:=hk
 refine wp_seq (zKc (zh7 (fun _ _=>t.zdO w) t.d) t.mix hz h1 h2 hr' fun s2 ρ2 a2 w2 e2 hr2 hk2=>?_)
 refine wp_ret ?_
 split at hk2<;>try (cases hk2;done)
 rename_i us hus
 obtain ⟨z,z1,z2⟩:=zmx (P:=P) hr2 hus
 have hd:=Enc.dec_enc _ _ hk2
 rw [hd] at z2
 exact ⟨hr2.df,z,z1,z,rfl,fun ρ3=>z2.pf (Enc.pf y),hr2.mr.bel⟩
def Ent.two1 {α γ:Type} [Enc α] [Enc γ] (t:Tb P) (b:Bod P) (G:α->Bool) (F:α->γ) (i:Nat) (l1:List Nat) (j:Nat) (l2:List Nat) (hsh:zuh b.code) (hz:zIX (zsX (zt2 (zDB b.code))) i j l1 l2=true) (hlp:zeV (zt2 b.code)= []) (hle:Nat.ble 1 b.fn.ntmps=true)
  (h0:∀x:α,zGk t b [enc x]=some (.norm,zLi t b [enc x])) (h1:∀x,G x=true->zxP t b [enc x] (i::l1) γ=some (F x)) (h2:∀x,G x=true->zxP t b [enc x] (j::l2) γ=some (F x)):Ent P where
 id:=b.id
 g:=fun vs _=>match vs with
  | [x]=>match (dec x:Option α) with
   | some x=>G x
   | _=>false
  | _=>false
 fn:=fun vs _=>match vs with
  | [x]=>match (dec x:Option α) with
   | some x=>some (enc (F x))
   | _=>none
  | _=>none
 ok:=fun vs m v hg hf w0 ρ xs w hv hm=>by
  split at hf<;>try (cases hf;done)
  split at hf<;>try (cases hf;done)
  rename_i x hx
  cases hf
  simp only [hx] at hg
  have:=Enc.dec_enc _ _ hx
  subst this
  exact (zLB hsh hz (fun c' hc=>by rw [hlp] at hc;cases hc) (zLi t b [enc x]) (h0 x) (h1 x hg) (h2 x hg) (by simpa using Nat.le_of_ble_eq_true hle) (by simp [V.pfs,Enc.pf]) hv hm.amb).mono fun v w' h=>⟨h.1 ρ,h.2⟩
end
end Go.Proofs.YtaoakfodkoifoaaGreat.Ev
/-
 A small evaluator for the program's code: entries whose first argument is a pointer.
-/
namespace Go.Proofs.YtaoakfodkoifoaaGreat.Ev
open Go Go.RowKit
variable [Amb]
structure Geo where
 e:Ell
 u:Iv
 v:Iv
 lon:Iv
 back:Bool
structure GeoS where
 e:Ell
 u:Iv
 v:Iv
 l:Iv
 d:I64
 ecc:Iv
 major:Iv
instance:Flat Geo where
 put:=fun v=> [.i64 v.e.a,.i64 v.e.num,.i64 v.e.den,.i64 v.u.lo,.i64 v.u.hi,.i64 v.v.lo,.i64 v.v.hi,.i64 v.lon.lo,.i64 v.lon.hi,.bool v.back]
 get:=fun vs=>match vs with
  | .i64 a :: .i64 b :: .i64 c :: .i64 d :: .i64 e :: .i64 f :: .i64 g :: .i64 h :: .i64 i :: .bool j::r=>some (⟨⟨a,b,c⟩,⟨d,e⟩,⟨f,g⟩,⟨h,i⟩,j⟩,r)
  | _=>none
 get_put:=fun vs x r h=>by split at h<;>cases h;rfl
 pf:=fun x=>rfl
instance:Flat GeoS where
 put:=fun v=> [.i64 v.e.a,.i64 v.e.num,.i64 v.e.den,.i64 v.u.lo,.i64 v.u.hi,.i64 v.v.lo,.i64 v.v.hi,.i64 v.l.lo,.i64 v.l.hi,.i64 v.d,.i64 v.ecc.lo,.i64 v.ecc.hi,.i64 v.major.lo,.i64 v.major.hi]
 get:=fun vs=>match vs with
  | .i64 a :: .i64 b :: .i64 c :: .i64 d :: .i64 e :: .i64 f :: .i64 g :: .i64 h :: .i64 i :: .i64 j :: .i64 k :: .i64 l :: .i64 m :: .i64 n::r=>some (⟨⟨a,b,c⟩,⟨d,e⟩,⟨f,g⟩,⟨h,i⟩,j,⟨k,l⟩,⟨m,n⟩⟩,r)
  | _=>none
 get_put:=fun vs x r h=>by split at h<;>cases h;rfl
 pf:=fun x=>rfl
instance:Enc Geo:=Flat.toEnc Geo
instance:Enc GeoS:=Flat.toEnc GeoS
section
variable {P:Program}
theorem zzx {t:Tb P} {b:Bod P} {δ γ:Type} [Cap δ] [Enc γ] {d:δ} {y:γ} {vs:List V} (hp:V.pfs vs=true) (h:zlr t b (.ptr 0 0::vs) [(0,Cap.ec d)] 1 γ=some y)
  {m:Mem} {k:Nat} (hk:lk m.blks k=some (Cap.ec d)) {w0:World} {ρ:Nat->Option Nat} {xs:List Value} {w:World} (hv:VRs ρ (.ptr k 0::vs) xs) (hm:MRel w0 ρ m w):
  Does P b.id xs.toArray w fun x w'=>VR ρ (enc y) x/\Below w.heap.size w w':=by
 obtain ⟨r,ys,ty,hr,hrow,hys⟩:=hm.blk k _ hk
 cases hv with
 | cons h2 ht=>
  cases h2
  rename_i r' hr'
  rw [hr] at hr';cases hr'
  have h0:(fun b=>if b=0 then some r else none:Nat->Option Nat) 0=some r:=rfl
  refine (zq8 (ρ1:=fun b=>if b=0 then some r else none) h (.cons (.ptr h0) (ht.pf hp)) ⟨fun b cs hb=>?_,?_,?_,?_,?_,Below.refl _ _,Nat.le_refl _,hm.amb⟩).mono fun v w' hh=>⟨hh.1 ρ,hh.2⟩
  ·simp only [zbz] at hb
   by_cases hb0:0=b
   ·subst hb0;simp at hb;subst hb
    exact ⟨r,ys,ty,h0,hrow,hys.pf (Cap.pf d)⟩
   ·rw [if_neg hb0] at hb;simp [lk] at hb
  ·intro b b' q h3 h4;split at h3<;>split at h4<;>simp_all
  ·intro b hb;rw [if_neg (by simp at hb;omega)]
  ·intro b q hq
   split at hq
   ·cases hq;exact hm.dom _ _ hr
   ·cases hq
  ·intro b q hb hq;rw [if_neg (by simp at hb;omega)] at hq;cases hq
def Ent.p1 {δ γ:Type} [Cap δ] [Enc γ] (t:Tb P) (b:Bod P) (G:δ->Bool) (F:δ->γ)
  (h:∀d,G d=true->zlr t b [.ptr 0 0] [(0,Cap.ec d)] 1 γ=some (F d)):Ent P where
 id:=b.id
 g:=fun vs blks=>match vs with
  | [.ptr k 0]=>match lk blks k with
   | some cs=>match (Cap.dc cs:Option δ) with
    | some d=>G d
    | none=>false
   | _=>false
  | _=>false
 fn:=fun vs blks=>match vs with
  | [.ptr k 0]=>match lk blks k with
   | some cs=>match (Cap.dc cs:Option δ) with
    | some d=>some (enc (F d))
    | none=>none
   | _=>none
  | _=>none
 ok:=fun vs m v hg hf w0 ρ xs w hv hm=>by
  split at hf<;>try (cases hf;done)
  split at hf<;>try (cases hf;done)
  rename_i cs hk
  split at hf<;>try (cases hf;done)
  rename_i d hd
  cases hf
  simp only [hk,hd] at hg
  have e2:=Cap.dc_ec _ _ hd
  subst e2
  exact zzx rfl (h d hg) hk hv hm
def Ent.p2 {δ α γ:Type} [Cap δ] [Enc α] [Enc γ] (t:Tb P) (b:Bod P) (G:δ->α->Bool) (F:δ->α->γ)
  (h:∀d x,G d x=true->zlr t b [.ptr 0 0,enc x] [(0,Cap.ec d)] 1 γ=some (F d x)):Ent P where
 id:=b.id
 g:=fun vs blks=>match vs with
  | [.ptr k 0,x]=>match (dec x:Option α),lk blks k with
   | some x,some cs=>match (Cap.dc cs:Option δ) with
    | some d=>G d x
    | none=>false
   | _,_=>false
  | _=>false
 fn:=fun vs blks=>match vs with
  | [.ptr k 0,x]=>match (dec x:Option α),lk blks k with
   | some x,some cs=>match (Cap.dc cs:Option δ) with
    | some d=>some (enc (F d x))
    | none=>none
   | _,_=>none
  | _=>none
 ok:=fun vs m v hg hf w0 ρ xs w hv hm=>by
  split at hf<;>try (cases hf;done)
  split at hf<;>try (cases hf;done)
  rename_i x cs hx hk
  split at hf<;>try (cases hf;done)
  rename_i d hd
  cases hf
  simp only [hx,hk,hd] at hg
  have e1:=Enc.dec_enc _ _ hx
  have e2:=Cap.dc_ec _ _ hd
  subst e1;subst e2
  exact zzx (by simp [V.pfs,Enc.pf]) (h d x hg) hk hv hm
def Ent.p3 {δ α β γ:Type} [Cap δ] [Enc α] [Enc β] [Enc γ] (t:Tb P) (b:Bod P) (G:δ->α->β->Bool) (F:δ->α->β->γ)
  (h:∀d x y,G d x y=true->zlr t b [.ptr 0 0,enc x,enc y] [(0,Cap.ec d)] 1 γ=some (F d x y)):Ent P where
 id:=b.id
 g:=fun vs blks=>match vs with
  | [.ptr k 0,x,y]=>match (dec x:Option α),(dec y:Option β),lk blks k with
   | some x,some y,some cs=>match (Cap.dc cs:Option δ) with
    | some d=>G d x y
    | none=>false
   | _,_,_=>false
  | _=>false
 fn:=fun vs blks=>match vs with
  | [.ptr k 0,x,y]=>match (dec x:Option α),(dec y:Option β),lk blks k with
   | some x,some y,some cs=>match (Cap.dc cs:Option δ) with
    | some d=>some (enc (F d x y))
    | none=>none
   | _,_,_=>none
  | _=>none
 ok:=fun vs m v hg hf w0 ρ xs w hv hm=>by
  split at hf<;>try (cases hf;done)
  split at hf<;>try (cases hf;done)
  rename_i x y cs hx hy hk
  split at hf<;>try (cases hf;done)
  rename_i d hd
  cases hf
  simp only [hx,hy,hk,hd] at hg
  have e1:=Enc.dec_enc _ _ hx
  have e3:=Enc.dec_enc _ _ hy
  have e2:=Cap.dc_ec _ _ hd
  subst e1;subst e3;subst e2
  exact zzx (by simp [V.pfs,Enc.pf]) (h d x y hg) hk hv hm
def Ent.of5 {α β δ ε ζ γ:Type} [Enc α] [Enc β] [Enc δ] [Enc ε] [Enc ζ] [Enc γ] (t:Tb P) (b:Bod P) (G:α->β->δ->ε->ζ->Bool) (F:α->β->δ->ε->ζ->γ)
  (h:∀x y z u q,G x y z u q=true->t.run b [enc x,enc y,enc z,enc u,enc q] γ=some (F x y z u q)):Ent P where
 id:=b.id
 g:=fun vs _=>match vs with
  | [x,y,z,u,q]=>match (dec x:Option α),(dec y:Option β),(dec z:Option δ),(dec u:Option ε),(dec q:Option ζ) with
   | some x,some y,some z,some u,some q=>G x y z u q
   | _,_,_,_,_=>false
  | _=>false
 fn:=fun vs _=>match vs with
  | [x,y,z,u,q]=>match (dec x:Option α),(dec y:Option β),(dec z:Option δ),(dec u:Option ε),(dec q:Option ζ) with
   | some x,some y,some z,some u,some q=>some (enc (F x y z u q))
   | _,_,_,_,_=>none
  | _=>none
 ok:=fun vs m v hg hf w0 ρ xs w hv hm=>by
  split at hf<;>try (cases hf;done)
  split at hf<;>try (cases hf;done)
  rename_i x y z u q hx hy hz hu hq
  cases hf
  simp only [hx,hy,hz,hu,hq] at hg
  have e1:=Enc.dec_enc _ _ hx
  have e2:=Enc.dec_enc _ _ hy
  have e3:=Enc.dec_enc _ _ hz
  have e4:=Enc.dec_enc _ _ hu
  have e5:=Enc.dec_enc _ _ hq
  subst e1;subst e2;subst e3;subst e4;subst e5
  exact Tb.run_does (h x y z u q hg) hv (by simp [V.pfs,Enc.pf]) hm.amb
end
end Go.Proofs.YtaoakfodkoifoaaGreat.Ev
/-
 A small evaluator for the program's code: loops that are left by two ways.
-/
namespace Go.Proofs.YtaoakfodkoifoaaGreat.Ev
open Go Go.RowKit
variable [Amb]
inductive Lp2 (α:Type) where
 | again (x:α)
 | out (x:α)
 | alt (x:α)
structure Tw (α:Type) where
 b:Bool
 s:α
instance {α:Type} [Inhabited α]:Inhabited (Tw α):=⟨⟨true,default⟩⟩
def Lf2 {α:Type} (body:α->Tr (Lp2 α)):Nat->α->Tr (Tw α)
 | 0,_=> .bad
 | n+1,x=>(body x).bind fun y=>match y with
  | .again z=>Lf2 body n z
  | .out z=> .leaf ⟨true,z⟩
  | .alt z=> .leaf ⟨false,z⟩
def zHt {α:Type} (sl bl:List Nat) (nx:Nat) (rd:St->Option α) (st:α->St) (e e':X) (G:α->Bool) (L:α->Tw α):LpF:=fun A s K=>
 bif Nat.beq s.mm.nxt nx then match canon sl bl nx s with
  | some s1=>match rd s1 with
   | some x=>bif G x then (bif (L x).b then K e (st (L x).s) else K e' (st (L x).s)) else none
   | none=>none
  | none=>none
 else none
theorem zHs {P:Program} {c:Code} {α:Type} {sl bl:List Nat} {nx:Nat} {rd:St->Option α} {st:α->St} {e e':X} {G:α->Bool} {L:α->Tw α} {body:α->Tr (Lp2 α)} {n:Nat}
  {t:Tb P} {lt:LT} (hne:e ≠ .norm) (hne':e' ≠ .norm)
  (hlt:∀c'∈zeV c,∀f,lt (key c')=some f->zkp P c' f)
  (hrd:∀s x,rd s=some x->s=st x)
  (hbl:∀x b cs,lk (st x).mm.blks b=some cs->b<nx)
  (hstep:∀x,evC (A:=X×St) t.T (zoH t.T (fun _=>t.drw) t.Es t.Bs t.N t.d) t.drw lt t.N c (st x) (fun z s'=>match canon sl bl nx s' with
    | some s''=>some (z,s'')
    | none=>none)=(body x).fold fun y=>match y with
     | .again z=>some (.norm,st z)
     | .out z=>some (e,st z)
     | .alt z=>some (e',st z))
  (hG:∀x,G x=true->(Lf2 body n x).opt=some (L x)):zkp P c (zHt sl bl nx rd st e e' G L):=by
 have rounds:∀n x y,(Lf2 body n x).opt=some y->∀(w0:World) (ρ:Nat->Option Nat) (a:Act) (w:World) (Q:Exit->Act->World->Prop),Rel w0 ρ (st x) a w->
   (∀ρ' a' w',(∀b r,b<nx->ρ b=some r->ρ' b=some r)->Rel w0 ρ' (st y.s) a' w'->Q (bif y.b then e else e').out a' w')->Code.rounds P c Q n a w:=by
  intro n
  induction n with
  | zero=>intro x y h;simp [Lf2,Tr.opt] at h
  | succ n ih=>
   intro x y h w0 ρ a w Q hr hq
   rw [rounds_succ]
   simp only [Lf2,Tr.zno] at h
   have hs:=hstep x
   rw [Tr.zEG] at hs
   split at h<;>try (cases h;done)
   rename_i z hz
   rw [hz] at hs
   cases z with
   | again z=>
    refine zlo (zh7 (fun _ _=>t.zdO w0) t.d) (t.zdO w0) c hlt _ _ hs ρ a w _ hr fun q s' ρ' a' w' ext hr' hk=>?_
    dsimp only at hk
    split at hk<;>try (cases hk;done)
    rename_i s'' hc
    simp only [Option.some.injEq,Prod.mk.injEq] at hk
    obtain ⟨rfl,rfl⟩:=hk
    have hr'':=zmE hc hr' (hbl z)
    exact ih z y h w0 _ a' w' Q hr'' fun ρ'' a'' w'' k1 k2=>hq ρ'' a'' w'' (fun b r hb hbr=>k1 b r hb (by simp [cutR,hb,ext b r hbr])) k2
   | out z=>
    simp only [Tr.opt,Option.some.injEq] at h
    subst h
    refine zlo (zh7 (fun _ _=>t.zdO w0) t.d) (t.zdO w0) c hlt _ _ hs ρ a w _ hr fun q s' ρ' a' w' ext hr' hk=>?_
    dsimp only at hk
    split at hk<;>try (cases hk;done)
    rename_i s'' hc
    simp only [Option.some.injEq,Prod.mk.injEq] at hk
    obtain ⟨rfl,rfl⟩:=hk
    have hr'':=zmE hc hr' (hbl z)
    have hqq:=hq _ a' w' (fun b r hb hbr=>by simp [cutR,hb,ext b r hbr]) hr''
    simp only [cond_true] at hqq
    cases q with
    | norm=>exact absurd rfl hne
    | exit id=>exact hqq
    | ret=>exact hqq
   | alt z=>
    simp only [Tr.opt,Option.some.injEq] at h
    subst h
    refine zlo (zh7 (fun _ _=>t.zdO w0) t.d) (t.zdO w0) c hlt _ _ hs ρ a w _ hr fun q s' ρ' a' w' ext hr' hk=>?_
    dsimp only at hk
    split at hk<;>try (cases hk;done)
    rename_i s'' hc
    simp only [Option.some.injEq,Prod.mk.injEq] at hk
    obtain ⟨rfl,rfl⟩:=hk
    have hr'':=zmE hc hr' (hbl z)
    have hqq:=hq _ a' w' (fun b r hb hbr=>by simp [cutR,hb,ext b r hbr]) hr''
    simp only [cond_false] at hqq
    cases q with
    | norm=>exact absurd rfl hne'
    | exit id=>exact hqq
    | ret=>exact hqq
 intro A w0 s K r h ρ a w Q hr hq
 unfold zHt at h
 cases hnx:Nat.beq s.mm.nxt nx with
 | false=>simp [hnx] at h
 | true=>
  simp only [hnx,cond_true] at h
  have hnx':=Nat.eq_of_beq_eq_true hnx
  split at h<;>try (cases h;done)
  rename_i s1 hc
  split at h<;>try (cases h;done)
  rename_i x hx
  cases hg:G x with
  | false=>simp [hg] at h
  | true=>
   simp only [hg,cond_true] at h
   have hs1:=hrd s1 x hx
   subst hs1
   have hr1:=zmE hc hr (hbl x)
   refine wp_loop_rounds n (rounds n x (L x) (hG x hg) w0 _ a w Q hr1 fun ρ' a' w' k1 k2=>?_)
   have ext:Ext ρ ρ':=fun b r hb=>by
    have hlt:b<nx:=by
     rcases Nat.lt_or_ge b nx with h'|h'
     ·exact h'
     ·have:=hr.mr.fresh b (by omega);rw [this] at hb;cases hb
    exact k1 b r hlt (by simp [cutR,hlt,hb])
   cases hb:(L x).b with
   | true=>
    rw [hb] at h
    simp only [cond_true] at h
    simp only [cond_true]
    exact hq e (st (L x).s) ρ' a' w' ext k2 h
   | false=>
    rw [hb] at h
    simp only [cond_false] at h
    simp only [cond_false]
    exact hq e' (st (L x).s) ρ' a' w' ext k2 h
end Go.Proofs.YtaoakfodkoifoaaGreat.Ev
namespace Go.Proofs.YtaoakfodkoifoaaGreat.Ev
open Go Go.RowKit
variable [Amb]
theorem hlb (n:Nat) (h:n*1<=140737488351232):inB .i64 ((n:Nat):Int)=true:=by
 simp only [inB,Bool.and_eq_true,decide_eq_true_eq];omega
def zvT:List V->List Nat->Bool
 | [],[]=>true
 | .arg k::vs,j::ks=>Nat.beq k j&&zvT vs ks
 | _,_=>false
def slv (k:Nat):Value:= .slice (Amb.A k) (Amb.len k) (Amb.cap k)
theorem zyb {ρ:Nat->Option Nat}:∀ {vs:List V} {ks:List Nat} {xs:List Value},zvT vs ks=true->VRs ρ vs xs->xs=ks.map slv
 | [],[],xs,_,h=>by cases h;rfl
 | [],_::_,xs,e,h=>by simp [zvT] at e
 | v::vs,[],xs,e,h=>by cases v<;>simp [zvT] at e
 | v::vs,j::ks,xs,e,h=>by
  cases v<;>simp only [zvT,Bool.and_eq_true] at e<;>try (cases e;done)
  rename_i k
  cases h with
  | cons h t=>
   cases h
   rw [zyb e.2 t,Nat.eq_of_beq_eq_true e.1]
   rfl
def Orac (P:Program) (f:Nat) (ks:List Nat) {γ:Type} [Enc γ] (o:γ):Prop:=
 ∀w,Amb.I w->Does P f (ks.map slv).toArray w fun x w'=>(∀ρ,VR ρ (enc o) x)/\Below w.heap.size w w'
def Ent.orac {P:Program} (f:Nat) (ks:List Nat) {γ:Type} [Enc γ] (o:γ) (h:Orac P f ks o):Ent P where
 id:=f
 g:=fun vs _=>zvT vs ks
 fn:=fun vs _=>bif zvT vs ks then some (enc o) else none
 ok:=fun vs m v hg hf w0 ρ xs w hv hm=>by
  simp only [hg,cond_true,Option.some.injEq] at hf
  subst hf
  rw [zyb hg hv]
  exact (h w (hm.amb w (Below.refl _ _)).1).mono fun v w' k=>⟨k.1 ρ,k.2⟩
theorem zDu {P:Program} (b:Bod P) {xs:Array Value} {w:World} {R:Value->World->Prop} (h:Calls P b.id xs w fun e w'=>∃x,e= .returned x/\R x w'):Does P b.id xs w R:=by
 intro o a next Q hn
 rw [zfv,Oper.upon_enter]
 exact h.mono fun e w' he=>by obtain ⟨x,rfl,hx⟩:=he;exact hn x w' hx
theorem zHy {P:Program} {t:Tb P} {b:Bod P} {ks:List Nat} {y:Bool} (h:t.run b (ks.map V.arg) Bool=some y) {w:World} (ha:Am w):
  Calls P b.id (ks.map slv).toArray w fun e w'=>e= .returned (.bool y)/\Below w.heap.size w w':=by
 have hv:∀ks:List Nat,VRs (fun _=>none) (ks.map V.arg) (ks.map slv):=by
  intro ks
  induction ks with
  | nil=>exact .nil
  | cons k ks ih=>exact .cons (.arg k) ih
 have hp:∀ks:List Nat,V.pfs (ks.map V.arg)=true:=by
  intro ks
  induction ks with
  | nil=>rfl
  | cons k ks ih=>simpa [V.pfs,V.pf] using ih
 refine (Tb.run_sound h (hv ks) (hp ks) ha).mono fun e w' he=>?_
 obtain ⟨x,rfl,h1,h2⟩:=he
 have:=h1 fun _=>none
 cases this
 exact ⟨rfl,h2⟩
end Go.Proofs.YtaoakfodkoifoaaGreat.Ev
