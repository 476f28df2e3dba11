/- The law FnLocal gives true, whatever bytes come in, where the listed tables hold what the program's text lays. The card: the tables tied to the text. No other conditions. (One of the texts of its proof, put together by a program of this session.) -/
import Derived.Test.YtlolpmmloolieaaGreatDoorZEB
import Derived.ProofKit
import Derived.Laws.Externs
import Derived.KernelRfl
set_option linter.unusedSectionVars false
set_option linter.unusedSimpArgs false
set_option linter.unusedVariables false
namespace Go.Proofs.YtlolpmmloolieaaGreatDoor.Ev
open Go Go.RowKit Go.ChangeShapes Go.WideShapes
variable [Amb]
inductive Lk where|bool|i64|u64|u8|str
def V.lk:V->Option Lk
 | .bool _=>some .bool
 | .i64 _=>some .i64
 | .u64 _=>some .u64
 | .u8 _=>some .u8
 | .str _=>some .str
 | _=>none
def fieldsK (P:Program) (rec:TypeId->Option (List Lk)):List Field->Nat->Option (List Lk)
 | [],_=>some []
 | f::fs,off=>match rec f.type with
  | some ks=>bif Nat.beq f.offset off&&Nat.beq (P.cellsOf f.type) ks.length then match fieldsK P rec fs (off+ks.length) with
    | some r=>some (ks++r)
    | none=>none
   else none
  | none=>none
def leafK (P:Program):Nat->TypeId->Option (List Lk)
 | 0,_=>none
 | n+1,t=>match P.underlying t with
  | some .bool=>some [.bool]
  | some (.int .i64)=>some [.i64]
  | some (.int .u64)=>some [.u64]
  | some (.int .u8)=>some [.u8]
  | some .string=>some [.str]
  | some (.struct fs)=>match fieldsK P (leafK P n) fs.toList 0 with
   | some ks=>bif Nat.beq (P.cellsOf t) ks.length then some ks else none
   | none=>none
  | _=>none
section
variable {H:Type} {enc:TypeId×Value->H} {P:Program} {w:World} {base:Nat} {spare:Nat->Bool} {held:Bool} {ρ:Nat->Option Nat}
class Arg (α:Type) extends Enc α where
 ks:List Lk
 agg:Bool
 of:∀vs:List V,vs.map V.lk=ks.map some->∃x:α,(bif agg then .agg vs else oneV vs)=enc x
end
theorem zdq {v:V} (h:v.lk=some .i64):∃x,v= .i64 x:=by cases v<;>simp [V.lk] at h;exact ⟨_,rfl⟩
theorem lk_bool {v:V} (h:v.lk=some .bool):∃x,v= .bool x:=by cases v<;>simp [V.lk] at h;exact ⟨_,rfl⟩
theorem lk_str {v:V} (h:v.lk=some .str):∃x,v= .str x:=by cases v<;>simp [V.lk] at h;exact ⟨_,rfl⟩
theorem map_cons {vs:List V} {k:Option Lk} {ks:List (Option Lk)} (h:vs.map V.lk=k::ks):∃v us,vs=v::us/\v.lk=k/\us.map V.lk=ks:=by
 cases vs with
 | nil=>cases h
 | cons v us=>simp at h;exact ⟨v,us,rfl,h.1,h.2⟩
theorem map_nil {vs:List V} (h:vs.map V.lk= []):vs= []:=by simpa using h
instance:Arg I64 where
 ks:= [.i64]
 agg:=false
 of:=fun vs h=>by
  obtain ⟨v,us,rfl,h,hn⟩:=map_cons h;obtain ⟨a,rfl⟩:=zdq h;cases map_nil hn;exact ⟨a,rfl⟩
instance:Arg Bool where
 ks:= [.bool]
 agg:=false
 of:=fun vs h=>by
  obtain ⟨v,us,rfl,h,hn⟩:=map_cons h;obtain ⟨a,rfl⟩:=lk_bool h;cases map_nil hn;exact ⟨a,rfl⟩
instance:Arg ByteArray where
 ks:= [.str]
 agg:=false
 of:=fun vs h=>by
  obtain ⟨v,us,rfl,h,hn⟩:=map_cons h;obtain ⟨a,rfl⟩:=lk_str h;cases map_nil hn;exact ⟨a,rfl⟩
instance:Arg Iv where
 ks:= [.i64,.i64]
 agg:=true
 of:=fun vs h=>by
  obtain ⟨v,us,rfl,k1,h1⟩:=map_cons h;obtain ⟨a,rfl⟩:=zdq k1
  obtain ⟨v,us,rfl,k1,h2⟩:=map_cons h1;obtain ⟨b,rfl⟩:=zdq k1
  cases map_nil h2;exact ⟨⟨a,b⟩,rfl⟩
instance:Arg zdz where
 ks:= [.i64,.i64]
 agg:=true
 of:=fun vs h=>by
  obtain ⟨v,us,rfl,k1,h1⟩:=map_cons h;obtain ⟨a,rfl⟩:=zdq k1
  obtain ⟨v,us,rfl,k1,h2⟩:=map_cons h1;obtain ⟨b,rfl⟩:=zdq k1
  cases map_nil h2;exact ⟨⟨a,b⟩,rfl⟩
instance:Arg Place where
 ks:= [.i64,.i64,.i64]
 agg:=true
 of:=fun vs h=>by
  obtain ⟨v,us,rfl,k1,h1⟩:=map_cons h;obtain ⟨a,rfl⟩:=zdq k1
  obtain ⟨v,us,rfl,k1,h2⟩:=map_cons h1;obtain ⟨b,rfl⟩:=zdq k1
  obtain ⟨v,us,rfl,k1,h3⟩:=map_cons h2;obtain ⟨c,rfl⟩:=zdq k1
  cases map_nil h3;exact ⟨⟨⟨a,b⟩,c⟩,rfl⟩
instance:Arg Ell where
 ks:= [.i64,.i64,.i64]
 agg:=true
 of:=fun vs h=>by
  obtain ⟨v,us,rfl,k1,h1⟩:=map_cons h;obtain ⟨a,rfl⟩:=zdq k1
  obtain ⟨v,us,rfl,k1,h2⟩:=map_cons h1;obtain ⟨b,rfl⟩:=zdq k1
  obtain ⟨v,us,rfl,k1,h3⟩:=map_cons h2;obtain ⟨c,rfl⟩:=zdq k1
  cases map_nil h3;exact ⟨⟨a,b,c⟩,rfl⟩
instance:Arg Proj where
 ks:= [.i64,.i64,.i64,.i64,.i64]
 agg:=true
 of:=fun vs h=>by
  obtain ⟨v,us,rfl,k1,h1⟩:=map_cons h;obtain ⟨a,rfl⟩:=zdq k1
  obtain ⟨v,us,rfl,k1,h2⟩:=map_cons h1;obtain ⟨b,rfl⟩:=zdq k1
  obtain ⟨v,us,rfl,k1,h3⟩:=map_cons h2;obtain ⟨c,rfl⟩:=zdq k1
  obtain ⟨v,us,rfl,k1,h4⟩:=map_cons h3;obtain ⟨d,rfl⟩:=zdq k1
  obtain ⟨v,us,rfl,k1,h5⟩:=map_cons h4;obtain ⟨e,rfl⟩:=zdq k1
  cases map_nil h5;exact ⟨⟨a,b,c,d,e⟩,rfl⟩
instance:Arg Planar where
 ks:= [.i64,.i64,.i64,.i64]
 agg:=true
 of:=fun vs h=>by
  obtain ⟨v,us,rfl,k1,h1⟩:=map_cons h;obtain ⟨a,rfl⟩:=zdq k1
  obtain ⟨v,us,rfl,k1,h2⟩:=map_cons h1;obtain ⟨b,rfl⟩:=zdq k1
  obtain ⟨v,us,rfl,k1,h3⟩:=map_cons h2;obtain ⟨c,rfl⟩:=zdq k1
  obtain ⟨v,us,rfl,k1,h4⟩:=map_cons h3;obtain ⟨d,rfl⟩:=zdq k1
  cases map_nil h4;exact ⟨⟨⟨a,b⟩,⟨c,d⟩⟩,rfl⟩
instance:Arg Vec where
 ks:= [.i64,.i64,.i64,.i64,.i64,.i64]
 agg:=true
 of:=fun vs h=>by
  obtain ⟨v,us,rfl,k1,h1⟩:=map_cons h;obtain ⟨a,rfl⟩:=zdq k1
  obtain ⟨v,us,rfl,k1,h2⟩:=map_cons h1;obtain ⟨b,rfl⟩:=zdq k1
  obtain ⟨v,us,rfl,k1,h3⟩:=map_cons h2;obtain ⟨c,rfl⟩:=zdq k1
  obtain ⟨v,us,rfl,k1,h4⟩:=map_cons h3;obtain ⟨d,rfl⟩:=zdq k1
  obtain ⟨v,us,rfl,k1,h5⟩:=map_cons h4;obtain ⟨e,rfl⟩:=zdq k1
  obtain ⟨v,us,rfl,k1,h6⟩:=map_cons h5;obtain ⟨f,rfl⟩:=zdq k1
  cases map_nil h6;exact ⟨⟨⟨a,b⟩,⟨c,d⟩,⟨e,f⟩⟩,rfl⟩
end Go.Proofs.YtlolpmmloolieaaGreatDoor.Ev
/-
 A small evaluator for the program's code: the two functions of math/bits that have no body;tables of loops.
-/
namespace Go.Proofs.YtlolpmmloolieaaGreatDoor.Ev
open Go Go.RowKit
variable [Amb]
section
variable {P:Program}
def Ent.ofV3 {γ:Type} [Enc γ] (id:Nat) (G:U64->U64->U64->Bool) (F:U64->U64->U64->γ)
  (h:∀(x y z:U64) (w:World),G x y z=true->∃v,(callFunc id #[.int .u64 x.val,.int .u64 y.val,.int .u64 z.val]).run P w= .ok (.value v) w/\∀ρ,VR ρ (enc (F x y z)) v):Ent P where
 id:=id
 g:=fun vs _=>match vs with
  | [x,y,z]=>match (dec x:Option U64),(dec y:Option U64),(dec z:Option U64) with
   | some x,some y,some z=>G x y z
   | _,_,_=>false
  | _=>false
 fn:=fun vs _=>match vs with
  | [x,y,z]=>match (dec x:Option U64),(dec y:Option U64),(dec z:Option U64) with
   | some x,some y,some z=>some (enc (F x y z))
   | _,_,_=>none
  | _=>none
 ok:=fun vs m v hg hf w0 ρ xs w hv hm=>by
  split at hf<;>try (cases hf;done)
  split at hf<;>try (cases hf;done)
  rename_i x y z hx hy hz
  cases hf
  simp only [hx,hy,hz] at hg
  have e1:=Enc.dec_enc _ _ hx
  have e2:=Enc.dec_enc _ _ hy
  have e3:=Enc.dec_enc _ _ hz
  subst e1;subst e2;subst e3
  cases hv with
  | cons h1 hv=>cases hv with
   | cons h2 hv=>cases hv with
    | cons h3 hv=>cases hv with
     | nil=>
      cases h1;cases h2;cases h3
      obtain ⟨v,k1,k2⟩:=h x y z w hg
      exact does_value k1 ⟨k2 ρ,Below.refl _ _⟩
def zan (x y c:U64):T2 U64 U64:=⟨.w .u64 (x.val+y.val+c.val),.w .u64 ((x.val+y.val+c.val)/18446744073709551616)⟩
def zdk (x y c:U64):T2 U64 U64:=⟨.w .u64 (x.val-y.val-c.val),.w .u64 (if x.val<y.val+c.val then 1 else 0)⟩
def G_carry (_ _ c:U64):Bool:=decide (c.val<=1)
theorem wrap_u64_mod (n:Int):IntKind.u64.wrap n=n%18446744073709551616:=by
 simp [IntKind.wrap,IntKind.bits,IntKind.signed]
def Ent.add64 {f : Nat} {fn : Func} (hf : P.funcs[f]? = some fn) (hname : (fn.name == "runtime.NumGoroutine") = false) (hb : fn.body.isNone = true) (hn : Extern.findNext fn = none)
  (he:Extern.find fn=some (Extern.MathBitsCarry.rows.head (by decide)).2):Ent P:= .ofV3 f G_carry zan fun x y z w hg=>by
 have hz:z.val<=1:=by simpa [G_carry] using hg
 have b1:=x.ubd;have b2:=y.ubd;have b3:=z.ubd
 refine ⟨_,?_,fun ρ=> .tup (.cons (.u64 _) (.cons (.u64 _) .nil))⟩
 rw [run_callFunc_extern hf hname hb hn he]
 have:=run_add64 (P:=P) x.val y.val z.val b1.1 b2.1 b3.1 hz w
 show ((add64Entry #[.int .u64 x.val,.int .u64 y.val,.int .u64 z.val]).run P w).andThen _=_
 rw [this]
 simp only [Result.andThen_ok,zan,Rng.val_w,wrap_u64_mod]
 have:(x.val+y.val+z.val)/18446744073709551616%18446744073709551616=(x.val+y.val+z.val)/18446744073709551616:=by omega
 rw [this]
theorem sub_run (x y b:Nat) (hb:b<=1) (w:World):((Extern.MathBitsCarry.rows.getLast (by decide)).2 #[.int .u64 x,.int .u64 y,.int .u64 b]).run P w=
  .ok (.tuple #[.int .u64 (((x+18446744073709551616-y-b)%18446744073709551616:Nat):Int),.int .u64 ((if x<y+b then 1 else 0:Nat):Int)]) w:=by
 have:b=0\/b=1:=by omega
 rcases this with rfl|rfl<;>rfl
def Ent.sub64 {f : Nat} {fn : Func} (hf : P.funcs[f]? = some fn) (hname : (fn.name == "runtime.NumGoroutine") = false) (hb : fn.body.isNone = true) (hn : Extern.findNext fn = none)
  (he:Extern.find fn=some (Extern.MathBitsCarry.rows.getLast (by decide)).2):Ent P:= .ofV3 f G_carry zdk fun x y z w hg=>by
 have hz:z.val<=1:=by simpa [G_carry] using hg
 have b1:=x.ubd;have b2:=y.ubd;have b3:=z.ubd
 refine ⟨_,?_,fun ρ=> .tup (.cons (.u64 _) (.cons (.u64 _) .nil))⟩
 rw [run_callFunc_extern hf hname hb hn he]
 obtain ⟨a,ha⟩:=Int.eq_ofNat_of_zero_le b1.1
 obtain ⟨b,hb⟩:=Int.eq_ofNat_of_zero_le b2.1
 obtain ⟨c,hc⟩:=Int.eq_ofNat_of_zero_le b3.1
 simp only [zdk,Rng.val_w,wrap_u64_mod]
 rw [ha,hb,hc]
 rw [ha] at b1;rw [hb] at b2;rw [hc] at b3 hz
 rw [sub_run a b c (by omega)]
 have e1:(((a+18446744073709551616-b-c)%18446744073709551616:Nat):Int)=((a:Int)-b-c)%18446744073709551616:=by omega
 have e2:((if a<b+c then 1 else 0:Nat):Int)=(if (a:Int)<b+c then 1 else 0)%18446744073709551616:=by split<;>split<;>omega
 rw [e1,e2]
 rfl
def opdStrs:Operand->List ByteArray
 | .const (.string s)=> [s]
 | _=> []
def codeStrs:Code->List ByteArray
 | .seq a b=>codeStrs a++codeStrs b
 | .cond x a b=>opdStrs x++(codeStrs a++codeStrs b)
 | .block _ a=>codeStrs a
 | .loop a=>codeStrs a
 | .region _ ops _=>ops.toList.flatMap fun o=>o.op.operands.toList.flatMap opdStrs
 | _=> []
theorem lk_lt {α:Type} {nx:Nat}:∀ {l:List (Nat×α)} {b:Nat} {c:α},(l.map (·.1)).all (fun b=>Nat.blt b nx)=true->lk l b=some c->b<nx
 | [],b,c,_,h=>by simp [lk] at h
 | (k,v)::t,b,c,ha,h=>by
  simp only [List.map_cons,List.all_cons,Bool.and_eq_true] at ha
  simp only [za7] at h
  by_cases hk:k=b
  ·subst hk;simpa using ha.1
  ·rw [if_neg hk] at h;exact lk_lt ha.2 h
def loopAt (c:Code) (i:Nat):Code:=(zdx c).getD i .skip
theorem zai.of {c:Code} {ks:List Nat} (hk:(zdx c).map key=ks) {lt:LT} (h:∀i k,ks[i]?=some k->∀f,lt k=some f->LoopOk P (loopAt c i) f):
  ∀c'∈zdx c,∀f,lt (key c')=some f->LoopOk P c' f:=by
 intro c' hc f hf
 obtain ⟨i,hi,he⟩:=List.getElem_of_mem hc
 have:=h i (key c') (by rw [<- hk];simp [hi,he]) f hf
 unfold loopAt at this
 simpa [List.getD,hi,he] using this
def ltOf:List (Nat×LpF)->LT
 | [],_=>none
 | (k,f)::t,n=>bif Nat.beq k n then some f else ltOf t n
end
end Go.Proofs.YtlolpmmloolieaaGreatDoor.Ev
/-
 A small evaluator for the program's code: entries of closures that read what they have captured.
-/
namespace Go.Proofs.YtlolpmmloolieaaGreatDoor.Ev
open Go Go.RowKit
variable [Amb]
class Cap (δ:Type) where
 ec:δ->List V
 dc:List V->Option δ
 dc_ec:∀cs d,dc cs=some d->cs=ec d
 pf:∀d,V.pfs (ec d)=true
structure FnTag (k:Nat) where
instance (k:Nat):Cap (FnTag k) where
 ec:=fun _=> [.fn k []]
 dc:=fun cs=>match cs with
  | [.fn f []]=>bif Nat.beq f k then some ⟨⟩ else none
  | _=>none
 dc_ec:=fun cs d h=>by
  split at h<;>try (cases h;done)
  rename_i f
  cases hf:Nat.beq f k with
  | false=>simp [hf] at h
  | true=>rw [Nat.eq_of_beq_eq_true hf]
 pf:=fun _=>rfl
instance {α:Type} [Flat α]:Cap α where
 ec:=Flat.put
 dc:=fun cs=>match Flat.get (α:=α) cs with
  | some (x,[])=>some x
  | _=>none
 dc_ec:=fun cs d h=>by
  split at h<;>try (cases h;done)
  rename_i h1
  cases h
  have:=Flat.get_put _ _ _ h1
  rw [this];simp
 pf:=Flat.pf
section
variable {P:Program}
end
end Go.Proofs.YtlolpmmloolieaaGreatDoor.Ev
/-
 A small evaluator for the program's code: entries whose first argument is a pointer.
-/
namespace Go.Proofs.YtlolpmmloolieaaGreatDoor.Ev
open Go Go.RowKit
variable [Amb]
structure Geo where
 e:Ell
 u:Iv
 v:Iv
 lon:Iv
 back:Bool
structure GeoS where
 e:Ell
 u:Iv
 v:Iv
 l:Iv
 d:I64
 ecc:Iv
 major:Iv
instance:Flat Geo where
 put:=fun v=> [.i64 v.e.a,.i64 v.e.num,.i64 v.e.den,.i64 v.u.lo,.i64 v.u.hi,.i64 v.v.lo,.i64 v.v.hi,.i64 v.lon.lo,.i64 v.lon.hi,.bool v.back]
 get:=fun vs=>match vs with
  | .i64 a :: .i64 b :: .i64 c :: .i64 d :: .i64 e :: .i64 f :: .i64 g :: .i64 h :: .i64 i :: .bool j::r=>some (⟨⟨a,b,c⟩,⟨d,e⟩,⟨f,g⟩,⟨h,i⟩,j⟩,r)
  | _=>none
 get_put:=fun vs x r h=>by split at h<;>cases h;rfl
 pf:=fun x=>rfl
instance:Flat GeoS where
 put:=fun v=> [.i64 v.e.a,.i64 v.e.num,.i64 v.e.den,.i64 v.u.lo,.i64 v.u.hi,.i64 v.v.lo,.i64 v.v.hi,.i64 v.l.lo,.i64 v.l.hi,.i64 v.d,.i64 v.ecc.lo,.i64 v.ecc.hi,.i64 v.major.lo,.i64 v.major.hi]
 get:=fun vs=>match vs with
  | .i64 a :: .i64 b :: .i64 c :: .i64 d :: .i64 e :: .i64 f :: .i64 g :: .i64 h :: .i64 i :: .i64 j :: .i64 k :: .i64 l :: .i64 m :: .i64 n::r=>some (⟨⟨a,b,c⟩,⟨d,e⟩,⟨f,g⟩,⟨h,i⟩,j,⟨k,l⟩,⟨m,n⟩⟩,r)
  | _=>none
 get_put:=fun vs x r h=>by split at h<;>cases h;rfl
 pf:=fun x=>rfl
instance:Enc Geo:=Flat.toEnc Geo
instance:Enc GeoS:=Flat.toEnc GeoS
section
variable {P:Program}
end
end Go.Proofs.YtlolpmmloolieaaGreatDoor.Ev
/-
 A small evaluator for the program's code: loops that are left by two ways.
-/
namespace Go.Proofs.YtlolpmmloolieaaGreatDoor.Ev
open Go Go.RowKit
variable [Amb]
structure Tw (α:Type) where
 b:Bool
 s:α
instance {α:Type} [Inhabited α]:Inhabited (Tw α):=⟨⟨true,default⟩⟩
end Go.Proofs.YtlolpmmloolieaaGreatDoor.Ev
namespace Go.Proofs.YtlolpmmloolieaaGreatDoor.Ev
open Go Go.RowKit
variable [Amb]
theorem hlb (n:Nat) (h:n*1<=140737488351232):inB .i64 ((n:Nat):Int)=true:=by
 simp only [inB,Bool.and_eq_true,decide_eq_true_eq];omega
def isArgs:List V->List Nat->Bool
 | [],[]=>true
 | .arg k::vs,j::ks=>Nat.beq k j&&isArgs vs ks
 | _,_=>false
def slv (k:Nat):Value:= .slice (Amb.A k) (Amb.len k) (Amb.cap k)
theorem isArgs_val {ρ:Nat->Option Nat}:∀ {vs:List V} {ks:List Nat} {xs:List Value},isArgs vs ks=true->VRs ρ vs xs->xs=ks.map slv
 | [],[],xs,_,h=>by cases h;rfl
 | [],_::_,xs,e,h=>by simp [isArgs] at e
 | v::vs,[],xs,e,h=>by cases v<;>simp [isArgs] at e
 | v::vs,j::ks,xs,e,h=>by
  cases v<;>simp only [isArgs,Bool.and_eq_true] at e<;>try (cases e;done)
  rename_i k
  cases h with
  | cons h t=>
   cases h
   rw [isArgs_val e.2 t,Nat.eq_of_beq_eq_true e.1]
   rfl
def Orac (P:Program) (f:Nat) (ks:List Nat) {γ:Type} [Enc γ] (o:γ):Prop:=
 ∀w,Amb.I w->Does P f (ks.map slv).toArray w fun x w'=>(∀ρ,VR ρ (enc o) x)/\Below w.heap.size w w'
def Ent.orac {P:Program} (f:Nat) (ks:List Nat) {γ:Type} [Enc γ] (o:γ) (h:Orac P f ks o):Ent P where
 id:=f
 g:=fun vs _=>isArgs vs ks
 fn:=fun vs _=>bif isArgs vs ks then some (enc o) else none
 ok:=fun vs m v hg hf w0 ρ xs w hv hm=>by
  simp only [hg,cond_true,Option.some.injEq] at hf
  subst hf
  rw [isArgs_val hg hv]
  exact (h w (hm.amb w (Below.refl _ _)).1).mono fun v w' k=>⟨k.1 ρ,k.2⟩
def Ent.orac2 {P:Program} (f:Nat) {γ:Type} [Enc γ] (ks:List Nat) (o:γ) (h:Orac P f ks o) (ks':List Nat) (o':γ) (h':Orac P f ks' o'):Ent P where
 id:=f
 g:=fun vs _=>isArgs vs ks||isArgs vs ks'
 fn:=fun vs _=>bif isArgs vs ks then some (enc o) else bif isArgs vs ks' then some (enc o') else none
 ok:=fun vs m v hg hf w0 ρ xs w hv hm=>by
  cases h1:isArgs vs ks with
  | true=>
   simp only [h1,cond_true,Option.some.injEq] at hf
   subst hf
   rw [isArgs_val h1 hv]
   exact (h w (hm.amb w (Below.refl _ _)).1).mono fun v w' k=>⟨k.1 ρ,k.2⟩
  | false=>
   cases h2:isArgs vs ks' with
   | true=>
    simp only [h1,h2,cond_true,cond_false,Option.some.injEq] at hf
    subst hf
    rw [isArgs_val h2 hv]
    exact (h' w (hm.amb w (Below.refl _ _)).1).mono fun v w' k=>⟨k.1 ρ,k.2⟩
   | false=>simp [h1,h2] at hf
theorem does_of {P:Program} (b:Bod P) {xs:Array Value} {w:World} {R:Value->World->Prop} (h:Calls P b.id xs w fun e w'=>∃x,e= .returned x/\R x w'):Does P b.id xs w R:=by
 intro o a next Q hn
 rw [zeV,Oper.upon_enter]
 exact h.mono fun e w' he=>by obtain ⟨x,rfl,hx⟩:=he;exact hn x w' hx
theorem law_calls {P:Program} {t:Tb P} {b:Bod P} {ks:List Nat} {y:Bool} (h:t.run b (ks.map V.arg) Bool=some y) {w:World} (ha:Am w):
  Calls P b.id (ks.map slv).toArray w fun e w'=>e= .returned (.bool y)/\Below w.heap.size w w':=by
 have hv:∀ks:List Nat,VRs (fun _=>none) (ks.map V.arg) (ks.map slv):=by
  intro ks
  induction ks with
  | nil=>exact .nil
  | cons k ks ih=>exact .cons (.arg k) ih
 have hp:∀ks:List Nat,V.pfs (ks.map V.arg)=true:=by
  intro ks
  induction ks with
  | nil=>rfl
  | cons k ks ih=>simpa [V.pfs,V.pf] using ih
 refine (Tb.run_sound h (hv ks) (hp ks) ha).mono fun e w' he=>?_
 obtain ⟨x,rfl,h1,h2⟩:=he
 have:=h1 fun _=>none
 cases this
 exact ⟨rfl,h2⟩
end Go.Proofs.YtlolpmmloolieaaGreatDoor.Ev
