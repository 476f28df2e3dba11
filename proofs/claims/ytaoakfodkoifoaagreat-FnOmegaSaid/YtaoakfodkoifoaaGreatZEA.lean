/- The law FnOmega gives true, whatever comes in; each argument reads behind the call as it read before. No conditions. (One of the texts of its proof, put together by a program of this session.) -/
import Derived.Orders
import Derived.LoopN
import Derived.Below
import Derived.Tactics
import Derived.KernelRfl
import Derived.Laws.Tables
import Derived.Laws.Cells
import Derived.Laws.StructEq
import Derived.Laws.Rows
import Derived.Laws.Externs
import Derived.Laws.CopyRow
import Derived.Laws.Strings
import Derived.Laws.Concat
set_option linter.unusedSectionVars false
set_option linter.unusedSimpArgs false
set_option linter.unusedVariables false
namespace Go.Proofs.YtaoakfodkoifoaaGreat.Ev
open Go Go.RowKit
def inB:IntKind->Int->Bool
 | .i8,n=>decide (-128<=n)&&decide (n<=127)
 | .i16,n=>decide (-32768<=n)&&decide (n<=32767)
 | .i32,n=>decide (-2147483648<=n)&&decide (n<=2147483647)
 | .i64,n=>decide (-9223372036854775808<=n)&&decide (n<=9223372036854775807)
 | .u8,n=>decide (0<=n)&&decide (n<=255)
 | .u16,n=>decide (0<=n)&&decide (n<=65535)
 | .u32,n=>decide (0<=n)&&decide (n<=4294967295)
 | .u64,n=>decide (0<=n)&&decide (n<=18446744073709551615)
theorem zJR (k:IntKind) (n:Int):inB k (k.wrap n)=true:=by
 cases k<;>simp only [inB,IntKind.wrap,IntKind.bits,IntKind.signed,Bool.and_eq_true,decide_eq_true_eq,Bool.true_and,Bool.false_and,Bool.false_eq_true,if_false] <;>
  (try split)<;>simp_all<;>omega
theorem ze9 {k:IntKind} {n:Int} (h:inB k n=true):k.wrap n=n:=by
 cases k<;>simp only [inB,Bool.and_eq_true,decide_eq_true_eq] at h<;>obtain ⟨h1,h2⟩:=h <;>
  simp only [IntKind.wrap,IntKind.bits,IntKind.signed,Bool.true_and,Bool.false_and,Bool.false_eq_true,if_false] <;>
  (try split)<;>simp_all<;>omega
@[ext] structure Rng (k:IntKind) where
 val:Int
 ok:inB k val=true
def Rng.w (k:IntKind) (n:Int):Rng k:=⟨k.wrap n,zJR k n⟩
abbrev I64:=Rng .i64
abbrev U64:=Rng .u64
abbrev U8:=Rng .u8
theorem Rng.bd (x:I64): -9223372036854775808<=x.val/\x.val<=9223372036854775807:=by
 have h:=x.ok;simp only [inB,Bool.and_eq_true,decide_eq_true_eq] at h;exact h
theorem Rng.ubd (x:U64):0<=x.val/\x.val<=18446744073709551615:=by
 have h:=x.ok;simp only [inB,Bool.and_eq_true,decide_eq_true_eq] at h;exact h
theorem Rng.bbd (x:U8):0<=x.val/\x.val<=255:=by
 have h:=x.ok;simp only [inB,Bool.and_eq_true,decide_eq_true_eq] at h;exact h
@[simp] theorem Rng.w_val {k:IntKind} (x:Rng k):Rng.w k x.val=x:=by
 apply Rng.ext;exact ze9 x.ok
theorem Rng.val_w (k:IntKind) (n:Int):(Rng.w k n).val=k.wrap n:=rfl
class Amb where
 A:Nat->Option Addr
 len:Nat->Nat
 cap:Nat->Nat
 I:World->Prop
 hlen:∀k,inB .i64 ((len k:Nat):Int)=true
 /-- So many points are in the slice (0: they are no points). -/
 pl:Nat->Nat
 hpl:∀k,pl k<=len k
 el:Nat->Int->Rng .i64×Rng .i64
 hel:∀(k:Nat) (j:Int),0<=j->j<(pl k:Int)->∃r o,A k=some ⟨r,o,none⟩/\∀w,I w->w.cell? ⟨r,o+j.toNat*2,none⟩=some (.int .i64 (el k j).1.val)/\w.cell? ⟨r,o+j.toNat*2+1,none⟩=some (.int .i64 (el k j).2.val)
instance (priority:=low) triv:Amb:=⟨fun _=>none,fun _=>0,fun _=>0,fun _=>True,fun _=>by kernel_rfl,fun _=>0,fun _=>Nat.le_refl _,fun _ _=>⟨⟨0,rfl⟩,⟨0,rfl⟩⟩,fun k j h0 h1=>absurd h1 (by simp;omega)⟩
def lenA [Amb] (k:Nat):Rng .i64:=⟨((Amb.len k:Nat):Int),Amb.hlen k⟩
inductive V where
 | bool (b:Bool)
 | i64 (x:Rng .i64)
 | u64 (x:Rng .u64)
 | u8 (x:Rng .u8)
 | str (s:ByteArray)
 | ptr (b o:Nat)
 | slc (b o l c:Nat)
 | arg (k:Nat)
 | argp (k:Nat) (j:Rng .i64)
 | nilp|nils|nilf
 | glob (g o:Nat)
 | gslc (g o l c:Nat)
 | agg (cs:List V)
 | tup (cs:List V)
 | fn (f:Nat) (cs:List V)
 deriving Inhabited
def V.cells:V->List V
 | .agg cs=>cs
 | v=> [v]
def V.atom:V->Bool
 | .agg _ | .tup _=>false
 | _=>true
variable [Amb]
mutual
inductive VR (ρ:Nat->Option Nat):V->Value->Prop
 | bool (b):VR ρ (.bool b) (.bool b)
 | i64 (x):VR ρ (.i64 x) (.int .i64 x.val)
 | u64 (x):VR ρ (.u64 x) (.int .u64 x.val)
 | u8 (x):VR ρ (.u8 x) (.int .u8 x.val)
 | str (s):VR ρ (.str s) (.string s)
 | ptr {b o r} (h:ρ b=some r):VR ρ (.ptr b o) (.pointer (some ⟨r,o,none⟩))
 | slc {b o l c r} (h:ρ b=some r):VR ρ (.slc b o l c) (.slice (some ⟨r,o,none⟩) l c)
 | arg (k):VR ρ (.arg k) (.slice (Amb.A k) (Amb.len k) (Amb.cap k))
 | argp {k j r o} (h:Amb.A k=some ⟨r,o,none⟩):VR ρ (.argp k j) (.pointer (some ⟨r,o+j.val.toNat*2,none⟩))
 | nilp:VR ρ .nilp (.pointer none)
 | nils:VR ρ .nils (.slice none 0 0)
 | nilf:VR ρ .nilf .nilFunc
 | glob (g o):VR ρ (.glob g o) (.pointer (some ⟨g,o,none⟩))
 | gslc (g o l c):VR ρ (.gslc g o l c) (.slice (some ⟨g,o,none⟩) l c)
 | agg {cs xs} (h:VRs ρ cs xs):VR ρ (.agg cs) (.agg xs.toArray)
 | tup {cs xs} (h:VRs ρ cs xs):VR ρ (.tup cs) (.tuple xs.toArray)
 | fn {f cs xs} (h:VRs ρ cs xs):VR ρ (.fn f cs) (.func (.func f) #[] xs.toArray)
inductive VRs (ρ:Nat->Option Nat):List V->List Value->Prop
 | nil:VRs ρ [] []
 | cons {v x vs xs} (h:VR ρ v x) (t:VRs ρ vs xs):VRs ρ (v::vs) (x::xs)
end
def Ext (ρ ρ':Nat->Option Nat):Prop:=∀b r,ρ b=some r->ρ' b=some r
theorem Ext.refl (ρ):Ext ρ ρ:=fun _ _ h=>h
theorem Ext.trans {a b c} (h:Ext a b) (k:Ext b c):Ext a c:=fun x r hx=>k x r (h x r hx)
mutual
theorem VR.mono {ρ ρ':Nat->Option Nat} (e:Ext ρ ρ') {v:V} {x:Value}:VR ρ v x->VR ρ' v x
 | .bool b=> .bool b
 | .i64 n=> .i64 n
 | .u64 n=> .u64 n
 | .u8 n=> .u8 n
 | .str s=> .str s
 | .ptr h=> .ptr (e _ _ h)
 | .slc h=> .slc (e _ _ h)
 | .arg k=> .arg k
 | .argp h=> .argp h
 | .nilp=> .nilp
 | .nils=> .nils
 | .nilf=> .nilf
 | .glob g o=> .glob g o
 | .gslc g o l c=> .gslc g o l c
 | .agg h=> .agg (VRs.mono e h)
 | .tup h=> .tup (VRs.mono e h)
 | .fn h=> .fn (VRs.mono e h)
theorem VRs.mono {ρ ρ':Nat->Option Nat} (e:Ext ρ ρ') {vs:List V} {xs:List Value}:VRs ρ vs xs->VRs ρ' vs xs
 | .nil=> .nil
 | .cons h t=> .cons (VR.mono e h) (VRs.mono e t)
end
section
variable {ρ:Nat->Option Nat}
theorem VRs.length {vs:List V} {xs:List Value} (h:VRs ρ vs xs):xs.length=vs.length:=by
 induction vs generalizing xs with
 | nil=>cases h;rfl
 | cons v vs ih=>cases h with|cons h t=>simp [ih t]
theorem VRs.get {vs:List V} {xs:List Value} (h:VRs ρ vs xs) (i:Nat) {v:V} (hv:vs[i]?=some v):∃x,xs[i]?=some x/\VR ρ v x:=by
 induction vs generalizing xs i with
 | nil=>simp at hv
 | cons u vs ih=>
  cases h with
  | cons h t=>
   cases i with
   | zero=>simp at hv;subst hv;exact ⟨_,by simp,h⟩
   | succ i=>simpa using ih t i (by simpa using hv)
theorem VRs.append {vs vs':List V} {xs xs':List Value} (h:VRs ρ vs xs) (h':VRs ρ vs' xs'):VRs ρ (vs++vs') (xs++xs'):=by
 induction vs generalizing xs with
 | nil=>cases h;simpa using h'
 | cons v vs ih=>cases h with|cons h t=>exact .cons h (ih t)
theorem VRs.take {vs:List V} {xs:List Value} (h:VRs ρ vs xs) (n:Nat):VRs ρ (vs.take n) (xs.take n):=by
 induction vs generalizing xs n with
 | nil=>cases h;simp;exact .nil
 | cons v vs ih=>
  cases h with
  | cons h t=>cases n with
   | zero=>simp;exact .nil
   | succ n=>simp;exact .cons h (ih t n)
theorem VRs.drop {vs:List V} {xs:List Value} (h:VRs ρ vs xs) (n:Nat):VRs ρ (vs.drop n) (xs.drop n):=by
 induction vs generalizing xs n with
 | nil=>cases h;simp;exact .nil
 | cons v vs ih=>
  cases h with
  | cons h t=>cases n with
   | zero=>simp;exact .cons h t
   | succ n=>simp;exact ih t n
theorem VR.cells {v:V} {x:Value} (h:VR ρ v x):VRs ρ v.cells x.cells.toList:=by
 cases h with
 | agg h=>simpa [V.cells,Value.cells] using h
 | tup h=>exact .cons (.tup h) .nil
 | fn h=>exact .cons (.fn h) .nil
 | ptr h=>exact .cons (.ptr h) .nil
 | slc h=>exact .cons (.slc h) .nil
 | bool b=>exact .cons (.bool b) .nil
 | i64 n=>exact .cons (.i64 n) .nil
 | u64 n=>exact .cons (.u64 n) .nil
 | u8 n=>exact .cons (.u8 n) .nil
 | str s=>exact .cons (.str s) .nil
 | arg k=>exact .cons (.arg k) .nil
 | argp h=>exact .cons (.argp h) .nil
 | nilp=>exact .cons .nilp .nil
 | nils=>exact .cons .nils .nil
 | nilf=>exact .cons .nilf .nil
 | glob g o=>exact .cons (.glob g o) .nil
 | gslc g o l c=>exact .cons (.gslc g o l c) .nil
theorem VR.one {v:V} {x:Value} (h:VR ρ v x) (ha:v.atom=true):x.oneCell'=true:=by
 cases h<;>simp_all [V.atom,Value.oneCell']
end
def lk {α:Type}:List (Nat×α)->Nat->Option α
 | [],_=>none
 | (i,v)::t,j=>bif Nat.beq i j then some v else lk t j
theorem zbz {α:Type} (i:Nat) (v:α) (t:List (Nat×α)) (j:Nat):lk ((i,v)::t) j=if i=j then some v else lk t j:=by
 simp only [lk];by_cases h:i=j
 ·simp [h]
 ·have:Nat.beq i j=false:=by
   cases hb:Nat.beq i j with
   | false=>rfl
   | true=>exact absurd (Nat.eq_of_beq_eq_true hb) h
  simp [h,this]
structure Mem where
 blks:List (Nat×List V)
 nxt:Nat
 lo:Nat
def zKW:Nat->Option (List V):=fun _=>none
def zQA:List (Nat×(Array Value->Prop)):= []
def RowX (w:World) (g:Nat) (φ:Array Value->Prop):Prop:=∃c t,w.heap[g]?=some (.cells c t (0,0))/\φ c
def InvX (w:World):Prop:=∀q∈zQA,RowX w q.1 q.2
def Inv0 (w:World):Prop:=(∀g cs,zKW g=some cs->∃xs t,w.heap[g]?=some (.cells xs.toArray t (0,0))/\VRs (fun _=>none) cs xs)/\InvX w
structure MRel (w0:World) (ρ:Nat->Option Nat) (m:Mem) (w:World):Prop where
 blk:∀b cs,lk m.blks b=some cs->∃r xs t,ρ b=some r/\w.heap[r]?=some (.cells xs.toArray t (0,0))/\VRs ρ cs xs
 inj:∀b b' r,ρ b=some r->ρ b'=some r->b=b'
 fresh:∀b,m.nxt<=b->ρ b=none
 dom:∀b r,ρ b=some r->r<w.heap.size
 own:∀b r,m.lo<=b->ρ b=some r->w0.heap.size<=r
 bel:Below w0.heap.size w0 w
 lon:m.lo<=m.nxt
 am:∀w',Below w0.heap.size w0 w'->Amb.I w'/\Inv0 w'
theorem MRel.invw {w0:World} {ρ:Nat->Option Nat} {m:Mem} {w:World} (h:MRel w0 ρ m w):Inv0 w:=(h.am w h.bel).2
structure St where
 tm:List (Nat×V)
 n:Nat
 mm:Mem
def St.put (s:St) (d:Option Tmp) (v:V) (m:Mem):St:=
 match d with
 | some d=>⟨(d,v)::s.tm,s.n,m⟩
 | none=>⟨s.tm,s.n,m⟩
def St.fits (s:St):Option Tmp->Bool
 | some d=>Nat.blt d s.n
 | none=>true
structure Rel (w0:World) (ρ:Nat->Option Nat) (s:St) (a:Act) (w:World):Prop where
 tm:∀t v,lk s.tm t=some v->∃x,a.tmps[t]?=some x/\VR ρ v x
 sz:a.tmps.size=s.n
 df:a.defers= []
 mr:MRel w0 ρ s.mm w
theorem Rel.put {w0:World} {ρ ρ':Nat->Option Nat} {s:St} {a:Act} {w w':World} (h:Rel w0 ρ s a w) (e:Ext ρ ρ') {d:Option Tmp} {v:V} {x:Value} {m:Mem}
  (hv:VR ρ' v x) (hf:s.fits d=true) (hm:MRel w0 ρ' m w'):Rel w0 ρ' (s.put d v m) (a.put d x) w':=by
 cases d with
 | none=>exact ⟨fun t u hu=>let ⟨y,hy,hr⟩:=h.tm t u hu;⟨y,hy,hr.mono e⟩,h.sz,h.df,hm⟩
 | some d=>
  have hlt:d<a.tmps.size:=by rw [h.sz];simpa [St.fits] using hf
  refine ⟨fun t u hu=>?_,by simp [Act.put,h.sz,St.put],h.df,hm⟩
  simp only [St.put,zbz] at hu
  by_cases hd:d=t
  ·subst hd
   simp at hu;subst hu
   exact ⟨x,by simp [Act.put,hlt],hv⟩
  ·rw [if_neg hd] at hu
   obtain ⟨y,hy,hr⟩:=h.tm t u hu
   exact ⟨y,by simp [Act.put,Array.getElem?_setIfInBounds_ne hd,hy],hr.mono e⟩
theorem MRel.below {w0:World} {ρ:Nat->Option Nat} {m:Mem} {w w':World} (h:MRel w0 ρ m w) (hb:Below w.heap.size w w'):MRel w0 ρ m w':=by
 refine ⟨fun b cs hc=>?_,h.inj,h.fresh,fun b r hr=>Nat.lt_of_lt_of_le (h.dom b r hr) hb.size,h.own,h.bel.trans (hb.mono h.bel.size),h.lon,h.am⟩
 obtain ⟨r,xs,t,hr,hx,hv⟩:=h.blk b cs hc
 exact ⟨r,xs,t,hr,by rw [hb.block r (h.dom b r hr)];exact hx,hv⟩
def Mem.new (m:Mem) (cs:List V):Mem:=⟨(m.nxt,cs)::m.blks,m.nxt+1,m.lo⟩
theorem MRel.new {w0:World} {ρ:Nat->Option Nat} {m:Mem} {w:World} (h:MRel w0 ρ m w) {cs:List V} {xs:List Value} (hv:VRs ρ cs xs) (t:TypeId):
  ∃ρ',Ext ρ ρ'/\ρ' m.nxt=some w.heap.size/\MRel w0 ρ' (m.new cs) (w.alloc (.cells xs.toArray t (0,0))):=by
 have hn:=h.fresh m.nxt (Nat.le_refl _)
 have e:Ext ρ (fun b=>if b=m.nxt then some w.heap.size else ρ b):=fun b r hr=>by
  have:b≠m.nxt:=fun hb=>by rw [hb,hn] at hr;cases hr
  simp [this,hr]
 refine ⟨_,e,by simp,?_,?_,?_,?_,?_,?_,Nat.le_succ_of_le h.lon,h.am⟩
 ·intro b cs' hc
  simp only [Mem.new,zbz] at hc
  by_cases hb:m.nxt=b
  ·subst hb
   simp at hc;subst hc
   exact ⟨w.heap.size,xs,t,by simp,heap_alloc_new w _,hv.mono e⟩
  ·rw [if_neg hb] at hc
   obtain ⟨r,ys,t',hr,hx,hvr⟩:=h.blk b cs' hc
   refine ⟨r,ys,t',e _ _ hr,?_,hvr.mono e⟩
   rw [Below.heap_alloc _ _ _ (h.dom b r hr)];exact hx
 ·intro b b' r h1 h2
  split at h1<;>split at h2
  ·simp_all
  ·cases h1;have:=h.dom b' _ h2;omega
  ·cases h2;have:=h.dom b _ h1;omega
  ·exact h.inj b b' r h1 h2
 ·intro b hb
  have:b≠m.nxt:=by simp [Mem.new] at hb;omega
  simp [this];exact h.fresh b (by simp [Mem.new] at hb;omega)
 ·intro b r hr
  rw [World.size_alloc]
  split at hr
  ·cases hr;omega
  ·have:=h.dom b r hr;omega
 ·intro b r hb hr
  split at hr
  ·cases hr;exact h.bel.size
  ·exact h.own b r hb hr
 ·exact h.bel.alloc h.bel.size _
end Go.Proofs.YtaoakfodkoifoaaGreat.Ev
/-
 A small evaluator for the program's code: what an operation gives,and that it gives so in the model.
-/
namespace Go.Proofs.YtaoakfodkoifoaaGreat.Ev
open Go Go.RowKit
variable [Amb]
inductive Kd where
 | struct (fs:List (Nat×Nat×Nat))
 | array (n e es:Nat)
 | slice (e es:Nat)
 | int (k:IntKind)
 | bool|str
 | ptr (e:Nat)
 | func|other
def kdOf (P:Program) (t:TypeId):Kd:=
 match P.underlying t with
 | some (.struct fs)=> .struct (fs.toList.map fun f=>(f.offset,f.type,P.cellsOf f.type))
 | some (.array n e)=> .array n e (P.cellsOf e)
 | some (.slice e)=> .slice e (P.cellsOf e)
 | some (.int k)=> .int k
 | some .bool=> .bool
 | some .string=> .str
 | some (.pointer e)=> .ptr e
 | some (.func _ _ _)=> .func
 | _=> .other
def V.valD:V->Value
 | .bool b=> .bool b
 | .i64 x=> .int .i64 x.val
 | .u64 x=> .int .u64 x.val
 | .u8 x=> .int .u8 x.val
 | .str s=> .string s
 | .nilp=> .pointer none
 | .nils=> .slice none 0 0
 | .nilf=> .nilFunc
 | _=>undef
def V.plain:V->Bool
 | .bool _ | .i64 _ | .u64 _ | .u8 _ | .str _ | .nilp | .nils | .nilf=>true
 | _=>false
theorem VR.valD {ρ:Nat->Option Nat} {v:V} (h:v.plain=true):VR ρ v v.valD:=by
 cases v<;>simp [V.plain] at h<;>simp only [V.valD]<;>constructor
theorem VRs.valD {ρ:Nat->Option Nat}:∀ {vs:List V},vs.all V.plain=true->VRs ρ vs (vs.map V.valD)
 | [],_=> .nil
 | v::vs,h=>by simp at h;exact .cons (.valD h.1) (VRs.valD (by simpa using h.2))
structure TyE (P:Program) where
 id:Nat
 size:Nat
 kd:Kd
 zero:List V
 cmp:Bool
 hk:kdOf P id=kd
 hs:(P.info? id).map (·.size)=some size
 hz:((P.info? id).bind (·.zero)).map (·.cells.toList)=some (zero.map V.valD)
 hp:zero.all V.plain=true
 hf:(match P.underlying id with
  | some (.struct fs)=>fs.toList.all fun f=>(P.info? f.type).isSome
  | some (.array _ e)=>(P.info? e).isSome
  | _=>true)=true
 hc : (cmp && (P.eqGuardType P.depth id || P.stoodInHeld id || !((P.fieldsOf id).toList.all fun f => f.name != "_"))) = false
def tyf {P:Program}:List (TyE P)->Nat->Option (TyE P)
 | [],_=>none
 | e::t,i=>bif Nat.beq e.id i then some e else tyf t i
theorem zdC {P:Program} {T:List (TyE P)} {i:Nat} {e:TyE P} (h:tyf T i=some e):e.id=i:=by
 induction T with
 | nil=>simp [tyf] at h
 | cons x T ih=>
  simp only [tyf] at h
  cases hb:Nat.beq x.id i with
  | true=>simp [hb] at h;subst h;simpa using hb
  | false=>simp [hb] at h;exact ih h
def zqA:Kd->Option Bool
 | .struct _ | .array _ _ _=>some true
 | .other=>none
 | _=>some false
section
variable {P:Program}
theorem TyE.info (e:TyE P):∃i,P.info? e.id=some i/\i.size=e.size/\∃z,i.zero=some z/\z.cells.toList=e.zero.map V.valD:=by
 have hs:=e.hs
 have hz:=e.hz
 cases hi:P.info? e.id with
 | none=>simp [hi] at hs
 | some i=>
  simp [hi] at hs hz
  obtain ⟨z,h1,h2⟩:=hz
  exact ⟨i,rfl,hs,z,h1,h2⟩
theorem TyE.run_size (e:TyE P) (w:World):(sizeOf e.id).run P w= .ok e.size w:=by
 obtain ⟨i,hi,hs,_⟩:=e.info
 simp [sizeOf,typeInfo,hi,hs]
theorem TyE.run_zero (e:TyE P) (w:World):∃z,(zeroValue e.id).run P w= .ok z w/\z.cells.toList=e.zero.map V.valD:=by
 obtain ⟨i,hi,_,z,hz,hc⟩:=e.info
 exact ⟨z,by simp [zeroValue,typeInfo,hi,hz],hc⟩
theorem TyE.run_agg (e:TyE P) {b:Bool} (h:zqA e.kd=some b) (w:World):(isAgg e.id).run P w= .ok b w:=by
 have hk:=e.hk
 unfold kdOf at hk
 unfold isAgg
 cases hu:P.underlying e.id with
 | none=>rw [hu] at hk;simp only at hk;rw [<- hk] at h;simp [zqA] at h
 | some d=>
  rw [hu] at hk
  simp only [Sem.run_bind,run_underlying hu w,Result.andThen_ok]
  cases d<;>simp only at hk<;>rw [<- hk] at h<;>simp [zqA] at h<;>subst h<;>rfl
theorem ziF {t n:Nat} (h:P.cellsOf t=n) (h0:n≠0) (w:World):(sizeOf t).run P w= .ok n w:=by
 unfold Program.cellsOf at h
 cases hi:P.info? t with
 | none=>simp [hi] at h;exact absurd h.symm h0
 | some i=>simp [hi] at h;simp [sizeOf,typeInfo,hi,h]
theorem TyE.fields (e:TyE P) {fs:List (Nat×Nat×Nat)} (h:e.kd= .struct fs):
  ∃F:Array Field,P.underlying e.id=some (.struct F)/\fs=F.toList.map fun f=>(f.offset,f.type,P.cellsOf f.type):=by
 have hk:=e.hk
 rw [h] at hk
 unfold kdOf at hk
 cases hu:P.underlying e.id with
 | none=>rw [hu] at hk;simp at hk
 | some d=>
  rw [hu] at hk
  cases d<;>simp at hk
  exact ⟨_,rfl,hk.symm⟩
end
def nth {α:Type}:List α->Nat->Option α
 | [],_=>none
 | a::_,0=>some a
 | _::t,n+1=>nth t n
theorem zpB {α:Type}:∀(l:List α) (n:Nat),nth l n=l[n]?
 | [],n=>by simp [nth]
 | a::t,0=>by simp [nth]
 | a::t,n+1=>by simp [nth,zpB t n]
def cst:Value->Option V
 | .bool b=>some (.bool b)
 | .int .i64 n=>match h:inB .i64 n with
  | true=>some (.i64 ⟨n,h⟩)
  | false=>none
 | .int .u64 n=>match h:inB .u64 n with
  | true=>some (.u64 ⟨n,h⟩)
  | false=>none
 | .int .u8 n=>match h:inB .u8 n with
  | true=>some (.u8 ⟨n,h⟩)
  | false=>none
 | .string s=>some (.str s)
 | .pointer none=>some .nilp
 | .slice none 0 0=>some .nils
 | .nilFunc=>some .nilf
 | _=>none
theorem zN9 {ρ:Nat->Option Nat} {x:Value} {v:V} (h:cst x=some v):VR ρ v x:=by
 unfold cst at h
 split at h
 ·cases h;constructor
 ·split at h<;>cases h;exact .i64 ⟨_,_⟩
 ·split at h<;>cases h;exact .u64 ⟨_,_⟩
 ·split at h<;>cases h;exact .u8 ⟨_,_⟩
 all_goals (cases h;try constructor)
def St.ev (s:St):Operand->Option V
 | .tmp t=>lk s.tm t
 | .const v=>cst v
 | .global g=>some (.glob g 0)
 | .func f=>some (.fn f [])
theorem Rel.ev {w0:World} {ρ:Nat->Option Nat} {s:St} {a:Act} {w:World} (h:Rel w0 ρ s a w) {x:Operand} {v:V} (hv:s.ev x=some v):VR ρ v (a.eval x):=by
 cases x with
 | tmp t=>
  obtain ⟨y,hy,hr⟩:=h.tm t v hv
  have:a.eval (.tmp t)=y:=by simp [Act.eval,hy]
  rw [this];exact hr
 | const c=>exact zN9 hv
 | global g=>simp [St.ev] at hv;subst hv;exact .glob g 0
 | func f=>simp [St.ev] at hv;subst hv;exact .fn (xs:= []) .nil
def St.evs (s:St):List Operand->Option (List V)
 | []=>some []
 | x::xs=>match s.ev x,s.evs xs with
  | some v,some vs=>some (v::vs)
  | _,_=>none
theorem Rel.evs {w0:World} {ρ:Nat->Option Nat} {s:St} {a:Act} {w:World} (h:Rel w0 ρ s a w):∀ {xs:List Operand} {vs:List V},s.evs xs=some vs->VRs ρ vs (xs.map a.eval)
 | [],vs,hv=>by simp [St.evs] at hv;subst hv;exact .nil
 | x::xs,vs,hv=>by
  simp only [St.evs] at hv
  split at hv
  ·rename_i u us hu hus
   cases hv
   exact .cons (h.ev hu) (h.evs hus)
  ·cases hv
def Mem.load (m:Mem) (b o n:Nat):Option (List V):=
 match lk m.blks b with
 | some cs=>bif Nat.ble (o+n) cs.length then some ((cs.drop o).take n) else none
 | none=>none
def Mem.load1 (m:Mem) (b o:Nat):Option V:=
 match lk m.blks b with
 | some cs=>nth cs o
 | none=>none
def Mem.store (m:Mem) (b o:Nat) (vs:List V):Option Mem:=
 match lk m.blks b with
 | some cs=>bif Nat.ble m.lo b&&(Nat.ble (o+vs.length) cs.length&&vs.all V.atom) then
   some ⟨(b,cs.take o++(vs++cs.drop (o+vs.length)))::m.blks,m.nxt,m.lo⟩ else none
 | none=>none
section
variable {P:Program} {w0 w:World} {ρ:Nat->Option Nat} {m:Mem}
theorem addr_add (r o n:Nat):(⟨r,o,none⟩:Addr).add n=⟨r,o+n,none⟩:=by
 unfold Addr.add;split<;>simp_all
theorem MRel.load1 (h:MRel w0 ρ m w) {b o:Nat} {v:V} (hl:m.load1 b o=some v):∃r x,ρ b=some r/\w.cell? ⟨r,o,none⟩=some x/\VR ρ v x:=by
 unfold Mem.load1 at hl
 split at hl
 ·rename_i cs hc
  obtain ⟨r,xs,t,hr,hx,hv⟩:=h.blk b cs hc
  rw [zpB] at hl
  obtain ⟨x,hx',hv'⟩:=hv.get o hl
  exact ⟨r,x,hr,by rw [cell_of_row w r o _ t _ hx];simpa using hx',hv'⟩
 ·cases hl
theorem MRel.load (h:MRel w0 ρ m w) {b o n:Nat} {vs:List V} (hl:m.load b o n=some vs):
  ∃r ys,ρ b=some r/\(loadCells ⟨r,o,none⟩ n).run P w= .ok ys.toArray w/\VRs ρ vs ys:=by
 unfold Mem.load at hl
 split at hl
 ·rename_i cs hc
  obtain ⟨r,xs,t,hr,hx,hv⟩:=h.blk b cs hc
  cases hle:Nat.ble (o+n) cs.length with
  | false=>simp [hle] at hl
  | true=>
   simp [hle] at hl;subst hl
   have hle':o+n<=cs.length:=Nat.le_of_ble_eq_true hle
   have hlen:=hv.length
   refine ⟨r,(xs.drop o).take n,hr,?_,(hv.drop o).take n⟩
   have hn:((xs.drop o).take n).length=n:=by simp;omega
   have:=run_loadCells_list (P:=P) w ⟨r,o,none⟩ ((xs.drop o).take n) (fun j v hj=>by
    rw [addr_add,cell_of_row w r _ _ t _ hx]
    rw [List.getElem?_take] at hj
    split at hj
    ·simpa using hj
    ·cases hj)
   rwa [hn] at this
 ·cases hl
theorem zqy (r o:Nat) (t:TypeId):∀(vs:List Value) (i:Nat) (w:World) (xs:List Value),w.heap[r]?=some (.cells xs.toArray t (0,0))->
  o+i+vs.length<=xs.length->(∀v∈vs,v.oneCell'=true)->
  (storeCells ⟨r,o,none⟩ vs i).run P w= .ok () (w.setRow r (xs.take (o+i)++(vs++xs.drop (o+i+vs.length))).toArray)
 | [],i,w,xs,hg,hle,hat=>by
  simp only [storeCells,Sem.run_pure,List.nil_append,List.length_nil,Nat.add_zero,List.take_append_drop]
  rw [setRow_self w r xs.toArray t _ hg]
 | v::vs,i,w,xs,hg,hle,hat=>by
  simp only [List.length_cons] at hle
  have hv:=hat v (by simp)
  have hcell:w.cell? ⟨r,o+i,none⟩=some xs[o+i]:=by
   rw [cell_of_row w r _ _ t _ hg];simp
  have hfz:w.frozen? ⟨r,o+i,none⟩=false:=frozen_of_row w r _ _ t hg
  have hset:=setCell_eq_setRow w r (o+i) xs.toArray t (0,0) v hg
  have hg':(w.setRow r (xs.set (o+i) v).toArray).heap[r]?=some (.cells (xs.set (o+i) v).toArray t (0,0)):=setRow_heap w r _ _ t _ hg
  have ih:=zqy r o t vs (i+1) (w.setRow r (xs.set (o+i) v).toArray) (xs.set (o+i) v) hg' (by simp;omega) (fun u hu=>hat u (by simp [hu]))
  simp only [storeCells,Sem.run_bind,addr_add]
  rw [run_store P w _ v _ hv]
  simp only [hcell,hfz,Bool.false_eq_true,if_false,Result.andThen_ok]
  rw [hset]
  simp only [List.setIfInBounds_toArray]
  rw [ih,setRow_setRow]
  congr 3
  apply List.ext_getElem?
  intro j
  simp only [List.getElem?_append,List.getElem?_take,List.getElem?_drop,List.length_take,List.length_set,List.length_cons,List.getElem?_set,List.getElem?_cons]
  have h1:min (o+(i+1)) xs.length=o+i+1:=by omega
  have h2:min (o+i) xs.length=o+i:=by omega
  rw [h1,h2]
  by_cases hj:j<o+i
  ·simp [hj,show j<o+i+1 by omega,show ¬o+i=j by omega,show j<o+(i+1) by omega]
  ·by_cases hj':j=o+i
   ·subst hj';simp [show o+i<o+(i+1) by omega];omega
   ·have e:j-(o+i)=(j-(o+i+1))+1:=by omega
    simp only [show ¬j<o+i by omega,show ¬j<o+i+1 by omega,if_false,e]
    simp only [Nat.add_sub_cancel,List.length_cons,Nat.add_lt_add_iff_right,show ¬(j-(o+i+1)+1=0) by omega,if_false]
    split
    ·rfl
    ·rw [if_neg (by omega)];congr 1;omega
theorem MRel.store' (h:MRel w0 ρ m w) {b o:Nat} {vs:List V} {ys:List Value} {m':Mem} (hs:m.store b o vs=some m') (hv:VRs ρ vs ys):
  ∃r w',ρ b=some r/\(storeCells ⟨r,o,none⟩ ys).run P w= .ok () w'/\MRel w0 ρ m' w'/\(∀k,k≠r->w'.heap[k]?=w.heap[k]?)/\w'.heap.size=w.heap.size:=by
 unfold Mem.store at hs
 split at hs
 ·rename_i cs hc
  obtain ⟨r,xs,t,hr,hx,hxv⟩:=h.blk b cs hc
  cases hb:(Nat.ble m.lo b&&(Nat.ble (o+vs.length) cs.length&&vs.all V.atom)) with
  | false=>simp [hb] at hs
  | true=>
   simp only [hb,cond_true,Option.some.injEq] at hs;subst hs
   simp only [Bool.and_eq_true] at hb
   obtain ⟨hlo,hle,hat⟩:=hb
   have hlo':=Nat.le_of_ble_eq_true hlo
   have hle':=Nat.le_of_ble_eq_true hle
   have l1:=hv.length
   have l2:=hxv.length
   have hone:∀y∈ys,y.oneCell'=true:=by
    clear hx hle hle' l1
    induction vs generalizing ys with
    | nil=>cases hv;simp
    | cons v vs ih=>
     cases hv with
     | cons hv ht=>
      simp at hat
      intro y hy
      simp at hy
      rcases hy with rfl|hy
      ·exact hv.one hat.1
      ·exact ih ht (by simpa using hat.2) y hy
   have hrun:=zqy (P:=P) r o t ys 0 w xs hx (by omega) hone
   simp only [Nat.add_zero] at hrun
   refine ⟨r,_,hr,hrun,⟨?_,h.inj,h.fresh,fun b' r' hr'=>by simpa using h.dom b' r' hr',h.own,?_,h.lon,h.am⟩,fun k hk=>setRow_other _ _ _ _ hk,by simp⟩
   ·intro b' cs' hc'
    simp only [zbz] at hc'
    by_cases hbb:b=b'
    ·subst hbb
     simp at hc';subst hc'
     refine ⟨r,_,t,hr,setRow_heap w r _ _ t _ hx,(hxv.take o).append (hv.append ?_)⟩
     rw [l1];exact hxv.drop _
    ·rw [if_neg hbb] at hc'
     obtain ⟨r',xs',t',hr',hx',hv'⟩:=h.blk b' cs' hc'
     refine ⟨r',xs',t',hr',?_,hv'⟩
     rw [setRow_other w r r' _ (fun e=>hbb (h.inj b b' r hr (e▸hr')))]
     exact hx'
   ·have hown:=h.own b r hlo' hr
    refine h.bel.trans ⟨rfl,rfl,rfl,by simp,fun k hk=>setRow_other _ _ _ _ (by omega)⟩
 ·cases hs
theorem MRel.store (h:MRel w0 ρ m w) {b o:Nat} {vs:List V} {ys:List Value} {m':Mem} (hs:m.store b o vs=some m') (hv:VRs ρ vs ys):
  ∃r w',ρ b=some r/\(storeCells ⟨r,o,none⟩ ys).run P w= .ok () w'/\MRel w0 ρ m' w':=
 let ⟨r,w',h1,h2,h3,_⟩:=h.store' (P:=P) hs hv
 ⟨r,w',h1,h2,h3⟩
end
end Go.Proofs.YtaoakfodkoifoaaGreat.Ev
/-
 A small evaluator for the program's code: the operations,and their soundness.
-/
namespace Go.Proofs.YtaoakfodkoifoaaGreat.Ev
open Go Go.RowKit
variable [Amb]
def zbI (op:BinOp) (k:IntKind) (x y:Int):Int:=
 match op with
 | .and=>((BitVec.ofInt k.bits x &&& BitVec.ofInt k.bits y).toNat:Int)
 | .or=>((BitVec.ofInt k.bits x ||| BitVec.ofInt k.bits y).toNat:Int)
 | .xor=>((BitVec.ofInt k.bits x ^^^ BitVec.ofInt k.bits y).toNat:Int)
 | _=>((BitVec.ofInt k.bits x &&& ~~~BitVec.ofInt k.bits y).toNat:Int)
def arith {A:Type} {k:IntKind} (op:BinOp) (mk:Rng k->V) (a b:Rng k) (K:V->Option A):Option A:=
 match op with
 | .add=>K (mk (.w k (a.val+b.val)))
 | .sub=>K (mk (.w k (a.val-b.val)))
 | .mul=>K (mk (.w k (a.val*b.val)))
 | .quo=>bif b.val==0 then none else K (mk (.w k (a.val.tdiv b.val)))
 | .rem=>bif b.val==0 then none else K (mk (.w k (a.val.tmod b.val)))
 | .and=>K (mk (.w k (zbI .and k a.val b.val)))
 | .or=>K (mk (.w k (zbI .or k a.val b.val)))
 | .xor=>K (mk (.w k (zbI .xor k a.val b.val)))
 | .andNot=>K (mk (.w k (zbI .andNot k a.val b.val)))
 | .eql=>K (.bool (a.val==b.val))
 | .neq=>K (.bool (a.val != b.val))
 | .lss=>K (.bool (decide (a.val<b.val)))
 | .leq=>K (.bool (decide (a.val<=b.val)))
 | .gtr=>K (.bool (decide (a.val>b.val)))
 | .geq=>K (.bool (decide (a.val>=b.val)))
 | _=>none
def shft {A:Type} {k:IntKind} (op:BinOp) (mk:Rng k->V) (a:Rng k) (y:Int) (K:V->Option A):Option A:=
 match op with
 | .shl=>K (mk (.w k (a.val*2^(min y.toNat k.bits))))
 | .shr=>K (mk (.w k (a.val.fdiv (2^(min y.toNat k.bits)))))
 | _=>none
def zvS:BinOp->Bool
 | .shl | .shr=>true
 | _=>false
def cnt:V->Option (Int×Bool)
 | .i64 y=>some (y.val,decide (y.val<0))
 | .u64 y=>some (y.val,false)
 | .u8 y=>some (y.val,false)
 | _=>none
def eqc:V->V->Option Bool
 | .i64 x,.i64 y=>some (x.val==y.val)
 | .u64 x,.u64 y=>some (x.val==y.val)
 | .u8 x,.u8 y=>some (x.val==y.val)
 | _,_=>none
def eqf {P:Program} (T:List (TyE P)):List (Nat×Nat×Nat)->List V->List V->Option Bool
 | [],_,_=>some true
 | (o,t,_)::fs,xs,ys=>
  match tyf T t with
  | some e=>match e.kd with
   | .int _=>match nth xs o,nth ys o with
    | some a,some b=>match eqc a b with
     | some p=>match eqf T fs xs ys with
      | some q=>some (p&&q)
      | none=>none
     | none=>none
    | _,_=>none
   | _=>none
  | none=>none
def eqf2 {P:Program} (T:List (TyE P)):List (Nat×Nat×Nat)->List V->List V->Option Bool
 | [],_,_=>some true
 | (o,t,_)::fs,xs,ys=>
  match tyf T t with
  | some e=>match e.kd with
   | .int _=>match nth xs o,nth ys o with
    | some a,some b=>match eqc a b with
     | some p=>match eqf2 T fs xs ys with
      | some q=>some (p&&q)
      | none=>none
     | none=>none
    | _,_=>none
   | .struct gs=>bif e.cmp then match eqf T gs ((xs.drop o).take e.size) ((ys.drop o).take e.size) with
     | some p=>match eqf2 T fs xs ys with
      | some q=>some (p&&q)
      | none=>none
     | none=>none
    else none
   | _=>none
  | none=>none
def bink {P:Program} {A:Type} (T:List (TyE P)) (op:BinOp) (xt:Nat) (a b:V) (K:V->Option A):Option A:=
 bif zvS op then
  match cnt b with
  | some (y,neg)=>bif neg then none else match a with
   | .i64 x=>shft op .i64 x y K
   | .u64 x=>shft op .u64 x y K
   | .u8 x=>shft op .u8 x y K
   | _=>none
  | none=>none
 else match a,b with
  | .i64 x,.i64 y=>arith op .i64 x y K
  | .u64 x,.u64 y=>arith op .u64 x y K
  | .u8 x,.u8 y=>arith op .u8 x y K
  | .bool x,.bool y=>match tyf T xt with
   | some e=>match e.kd,op with
    | .bool,.eql=>K (.bool (x==y))
    | .bool,.neq=>K (.bool (!(x==y)))
    | _,_=>none
   | none=>none
  | .agg xs,.agg ys=>match tyf T xt with
   | some e=>bif e.cmp then match e.kd with
    | .struct fs=>match eqf2 T fs xs ys with
     | some r=>match op with
      | .eql=>K (.bool r)
      | .neq=>K (.bool (!r))
      | _=>none
     | none=>none
    | _=>none
    else none
   | none=>none
  | _,_=>none
def unv:UnOp->V->Option V
 | .neg,.i64 x=>some (.i64 (.w .i64 (0-x.val)))
 | .neg,.u64 x=>some (.u64 (.w .u64 (0-x.val)))
 | .xor,.i64 x=>some (.i64 (.w .i64 (zbI .xor .i64 (-1) x.val)))
 | .xor,.u64 x=>some (.u64 (.w .u64 (zbI .xor .u64 18446744073709551615 x.val)))
 | .not,.bool b=>some (.bool (!b))
 | _,_=>none
def cnv:Kd->V->Option V
 | .int .i64,.i64 x=>some (.i64 x)
 | .int .i64,.u64 x=>some (.i64 (.w .i64 x.val))
 | .int .i64,.u8 x=>some (.i64 (.w .i64 x.val))
 | .int .u64,.i64 x=>some (.u64 (.w .u64 x.val))
 | .int .u64,.u64 x=>some (.u64 x)
 | .int .u64,.u8 x=>some (.u64 (.w .u64 x.val))
 | .int .u8,.i64 x=>some (.u8 (.w .u8 x.val))
 | .int .u8,.u64 x=>some (.u8 (.w .u8 x.val))
 | .int .u8,.u8 x=>some (.u8 x)
 | _,_=>none
section
variable {P:Program} {A:Type} {ρ:Nat->Option Nat}
def Gives (P:Program) (ρ:Nat->Option Nat) (S:Sem Value) (K:V->Option A) (r:A):Prop:=
 ∀w,∃v x,S.run P w= .ok x w/\VR ρ v x/\K v=some r
theorem zIY {k:IntKind} (a b:Rng k):k.wrap (a.val.tmod b.val)=a.val.tmod b.val:=by
 apply ze9
 have ha:=a.ok
 have h1:(a.val.tmod b.val).natAbs<=a.val.natAbs:=by rw [Int.natAbs_tmod];exact Nat.mod_le _ _
 have h2:0<=a.val->0<=a.val.tmod b.val:=fun h=>Int.tmod_nonneg _ h
 have h3:a.val<=0->a.val.tmod b.val<=0:=fun h=>by
  have:=Int.tmod_nonneg (a:= -a.val) b.val (by omega)
  rw [Int.neg_tmod] at this;omega
 cases k<;>simp only [inB,Bool.and_eq_true,decide_eq_true_eq] at ha ⊢ <;> omega
theorem zJ3 {k:IntKind} (a:Rng k) (n:Nat):k.wrap (a.val.fdiv (2^n))=a.val.fdiv (2^n):=by
 apply ze9
 have ha:=a.ok
 have hp:(0:Int)<2^n:=Int.pow_pos (by decide)
 have he:a.val.fdiv (2^n)=a.val/(2^n):=Int.fdiv_eq_ediv_of_nonneg _ (Int.le_of_lt hp)
 rw [he]
 have h1:(1:Int)<=2^n:=hp
 have u:0<=a.val->a.val/2^n<=a.val:=fun h=>Int.ediv_le_self _ h
 have u0:0<=a.val->0<=a.val/2^n:=fun h=>Int.ediv_nonneg h (Int.le_of_lt hp)
 have l:a.val<0->a.val/2^n<0:=fun h=>Int.ediv_neg_of_neg_of_pos h hp
 have l':a.val<0->a.val<=a.val/2^n:=fun h=>by
  have:a.val<=a.val/2^n↔a.val*2^n<=a.val:=Int.le_ediv_iff_mul_le hp
  rw [this]
  have h2:0<=(-a.val)*(2^n-1):=Int.mul_nonneg (by omega) (by omega)
  rw [Int.mul_sub,Int.mul_one,Int.neg_mul] at h2
  omega
 cases k<;>simp only [inB,Bool.and_eq_true,decide_eq_true_eq] at ha ⊢ <;> omega
theorem zq9 {k:IntKind} {op:BinOp} {mk:Rng k->V} {a b:Rng k} {K:V->Option A} {r:A} (hmk:∀x,VR ρ (mk x) (.int k x.val))
  (h:arith op mk a b K=some r) (xt:Nat) (hs:zvS op=false):Gives P ρ (Go.binOp op xt (.int k a.val) (.int k b.val)) K r:=by
 intro w
 cases op<;>simp only [arith] at h<;>first
  | (cases h;done)
  | (simp [zvS] at hs;done)
  | skip
 case add=>exact ⟨_,_,by simp [Go.binOp,Op.intArith];rfl,hmk (.w k (a.val+b.val)),h⟩
 case sub=>exact ⟨_,_,by simp [Go.binOp,Op.intArith];rfl,hmk (.w k (a.val-b.val)),h⟩
 case mul=>exact ⟨_,_,by simp [Go.binOp,Op.intArith];rfl,hmk (.w k (a.val*b.val)),h⟩
 case quo=>
  cases hb:(b.val==0) with
  | true=>simp [hb] at h
  | false=>
   simp only [hb,cond_false] at h
   have hb':¬b.val=0:=by simpa using hb
   exact ⟨_,_,by simp [Go.binOp,Op.intDiv,hb'];rfl,hmk (.w k (a.val.tdiv b.val)),h⟩
 case rem=>
  cases hb:(b.val==0) with
  | true=>simp [hb] at h
  | false=>
   simp only [hb,cond_false] at h
   have hb':¬b.val=0:=by simpa using hb
   refine ⟨_,.int k (a.val.tmod b.val),by simp [Go.binOp,Op.intDiv,hb'],?_,h⟩
   have:=hmk (.w k (a.val.tmod b.val))
   rwa [Rng.val_w,zIY] at this
 case and=>exact ⟨_,.int k (k.wrap (zbI .and k a.val b.val)),by simp only [Go.binOp,ne_eq,not_true_eq_false,if_false];rfl,hmk (.w k (zbI .and k a.val b.val)),h⟩
 case or=>exact ⟨_,.int k (k.wrap (zbI .or k a.val b.val)),by simp only [Go.binOp,ne_eq,not_true_eq_false,if_false];rfl,hmk (.w k (zbI .or k a.val b.val)),h⟩
 case xor=>exact ⟨_,.int k (k.wrap (zbI .xor k a.val b.val)),by simp only [Go.binOp,ne_eq,not_true_eq_false,if_false];rfl,hmk (.w k (zbI .xor k a.val b.val)),h⟩
 case andNot=>exact ⟨_,.int k (k.wrap (zbI .andNot k a.val b.val)),by simp only [Go.binOp,ne_eq,not_true_eq_false,if_false];rfl,hmk (.w k (zbI .andNot k a.val b.val)),h⟩
 case eql=>exact ⟨_,_,by simp [Go.binOp,Op.intCmp],.bool _,h⟩
 case neq=>exact ⟨_,_,by simp [Go.binOp,Op.intCmp],.bool _,h⟩
 case lss=>exact ⟨_,_,by simp [Go.binOp,Op.intCmp],.bool _,h⟩
 case leq=>exact ⟨_,_,by simp [Go.binOp,Op.intCmp],.bool _,h⟩
 case gtr=>exact ⟨_,_,by simp [Go.binOp,Op.intCmp],.bool _,h⟩
 case geq=>exact ⟨_,_,by simp [Go.binOp,Op.intCmp],.bool _,h⟩
theorem zss {k k':IntKind} {op:BinOp} {mk:Rng k->V} {a:Rng k} {y:Int} {K:V->Option A} {r:A} (hmk:∀x,VR ρ (mk x) (.int k x.val))
  (h:shft op mk a y K=some r) (xt:Nat) (hy:¬y<0):Gives P ρ (Go.binOp op xt (.int k a.val) (.int k' y)) K r:=by
 intro w
 cases op<;>simp only [shft] at h<;>first|(cases h;done)|skip
 case shl=>exact ⟨_,_,by simp [Go.binOp,Op.shift,hy];rfl,hmk (.w k _),h⟩
 case shr=>
  refine ⟨_,.int k (a.val.fdiv (2^min y.toNat k.bits)),by simp [Go.binOp,Op.shift,hy],?_,h⟩
  have:=hmk (.w k (a.val.fdiv (2^min y.toNat k.bits)))
  rwa [Rng.val_w,zJ3] at this
theorem zH3 {a b:V} {x y:Value} {p:Bool} (h:eqc a b=some p) (ha:VR ρ a x) (hb:VR ρ b y):
  ∃k m n,x= .int k m/\y= .int k n/\p=(m==n):=by
 cases ha<;>cases hb<;>simp [eqc] at h<;>exact ⟨_,_,_,rfl,rfl,h.symm⟩
theorem TyE.int {e:TyE P} {k:IntKind} (h:e.kd= .int k):P.underlying e.id=some (.int k):=by
 have hk:=e.hk
 rw [h] at hk
 unfold kdOf at hk
 cases hu:P.underlying e.id with
 | none=>rw [hu] at hk;simp at hk
 | some d=>rw [hu] at hk;cases d<;>simp at hk;subst hk;rfl
theorem TyE.bool {e:TyE P} (h:e.kd= .bool):P.underlying e.id=some .bool:=by
 have hk:=e.hk
 rw [h] at hk
 unfold kdOf at hk
 cases hu:P.underlying e.id with
 | none=>rw [hu] at hk;simp at hk
 | some d=>rw [hu] at hk;cases d<;>simp at hk;rfl
theorem zH2 {T:List (TyE P)} (d:Nat) (w:World) {xs ys:List V} {us vs:List Value} (hx:VRs ρ xs us) (hy:VRs ρ ys vs):
  ∀ (F : List Field) (p : Bool), (F.all fun f => f.name != "_") = true -> eqf T (F.map fun f => (f.offset, f.type, P.cellsOf f.type)) xs ys = some p ->
  (Op.eqFields (d+1) us.toArray vs.toArray F).run P w= .ok p w
 | [],p,_,h=>by simp [eqf] at h;subst h;simp [Op.eqFields]
 | f::F,p,hn,h=>by
  simp only [List.all_cons,Bool.and_eq_true] at hn
  have hn1 : f.name ≠ "_" := by simpa using hn.1
  simp only [List.map_cons,eqf] at h
  split at h<;>try (cases h;done)
  rename_i e he
  have hid:=zdC he
  split at h<;>try (cases h;done)
  rename_i k hk
  split at h<;>try (cases h;done)
  rename_i a b hna hnb
  split at h<;>try (cases h;done)
  rename_i q hq
  split at h<;>try (cases h;done)
  rename_i q' hq'
  cases h
  rw [zpB] at hna hnb
  obtain ⟨x,hx1,hx2⟩:=hx.get _ hna
  obtain ⟨y,hy1,hy2⟩:=hy.get _ hnb
  obtain ⟨k',m,n,rfl,rfl,rfl⟩:=zH3 hq hx2 hy2
  have hagg:=e.run_agg (b:=false) (by rw [hk];rfl) w
  rw [hid] at hagg
  have hu:=TyE.int hk
  rw [hid] at hu
  have p1:(part f.type us.toArray f.offset).run P w= .ok (.int k' m) w:=by simp [part,hagg,hx1]
  have p2:(part f.type vs.toArray f.offset).run P w= .ok (.int k' n) w:=by simp [part,hagg,hy1]
  have p3:=run_equalIn_int (P:=P) w d f.type k' k m n hu
  have ih:=zH2 d w hx hy F q' hn.2 hq'
  simp only [Op.eqFields,ne_eq,hn1,not_false_eq_true,if_true,Sem.run_bind,p1,p2,Result.andThen_ok,p3,Sem.run_ite,ih,Sem.run_pure]
  cases hmn:(m==n)<;>simp [hmn]
theorem zzR {T:List (TyE P)} (d:Nat) (w:World) {xs ys:List V} {us vs:List Value} (hx:VRs ρ xs us) (hy:VRs ρ ys vs):
  ∀ (F : List Field) (p : Bool), (F.all fun f => f.name != "_") = true -> eqf2 T (F.map fun f => (f.offset, f.type, P.cellsOf f.type)) xs ys = some p ->
  (Op.eqFields (d+2) us.toArray vs.toArray F).run P w= .ok p w
 | [],p,_,h=>by simp [eqf2] at h;subst h;simp [Op.eqFields]
 | f::F,p,hn,h=>by
  simp only [List.all_cons,Bool.and_eq_true] at hn
  have hn1 : f.name ≠ "_" := by simpa using hn.1
  simp only [List.map_cons,eqf2] at h
  split at h<;>try (cases h;done)
  rename_i e he
  have hid:=zdC he
  split at h<;>try (cases h;done)
  ·rename_i k hk
   split at h<;>try (cases h;done)
   rename_i a b hna hnb
   split at h<;>try (cases h;done)
   rename_i q hq
   split at h<;>try (cases h;done)
   rename_i q' hq'
   cases h
   rw [zpB] at hna hnb
   obtain ⟨x,hx1,hx2⟩:=hx.get _ hna
   obtain ⟨y,hy1,hy2⟩:=hy.get _ hnb
   obtain ⟨k',m,n,rfl,rfl,rfl⟩:=zH3 hq hx2 hy2
   have hagg:=e.run_agg (b:=false) (by rw [hk];rfl) w
   rw [hid] at hagg
   have hu:=TyE.int hk
   rw [hid] at hu
   have p1:(part f.type us.toArray f.offset).run P w= .ok (.int k' m) w:=by simp [part,hagg,hx1]
   have p2:(part f.type vs.toArray f.offset).run P w= .ok (.int k' n) w:=by simp [part,hagg,hy1]
   have p3:=run_equalIn_int (P:=P) w (d+1) f.type k' k m n hu
   have ih:=zzR d w hx hy F q' hn.2 hq'
   simp only [Op.eqFields,ne_eq,hn1,not_false_eq_true,if_true,Sem.run_bind,p1,p2,Result.andThen_ok,p3,Sem.run_ite,ih,Sem.run_pure]
   cases hmn:(m==n)<;>simp [hmn]
  ·rename_i gs hk
   cases hcmp:e.cmp with
   | false=>simp [hcmp] at h
   | true=>
    simp only [hcmp,cond_true] at h
    split at h<;>try (cases h;done)
    rename_i q hq
    split at h<;>try (cases h;done)
    rename_i q' hq'
    cases h
    have hc:=e.hc
    rw [hcmp] at hc
    simp only [Bool.true_and,Bool.or_eq_false_iff,Bool.not_eq_false'] at hc
    obtain ⟨⟨c1,c2⟩,c3⟩:=hc
    obtain ⟨G,hu,hfs⟩:=e.fields hk
    have hG:P.fieldsOf e.id=G:=by simp [Program.fieldsOf,hu]
    have h1:=e.run_agg (b:=true) (by rw [hk];rfl) w
    have h2:=e.run_size w
    rw [hid] at hu c1 c2 c3 hG h1 h2
    rw [hG] at c3
    have ex:∀zs:List Value,zs.toArray.extract f.offset (f.offset+e.size)=((zs.drop f.offset).take e.size).toArray:=fun zs=>by simp [List.extract_eq_take_drop]
    have p1:∀zs:List Value,(part f.type zs.toArray f.offset).run P w= .ok (.agg ((zs.drop f.offset).take e.size).toArray) w:=fun zs=>by
     simp only [part,Sem.run_bind,h1,h2,Result.andThen_ok,if_true,Sem.run_pure,ex]
    have hin:=zH2 (P:=P) (T:=T) d w ((hx.drop f.offset).take e.size) ((hy.drop f.offset).take e.size) G.toList q c3 (hfs▸hq)
    have p3:=run_equalIn_struct (P:=P) w (d+1) f.type ((us.drop f.offset).take e.size).toArray ((vs.drop f.offset).take e.size).toArray (by rw [hG];exact hu) c2
    rw [hG,hin] at p3
    have ih:=zzR d w hx hy F q' hn.2 hq'
    simp only [Op.eqFields,ne_eq,hn1,not_false_eq_true,if_true,Sem.run_bind,p1,Result.andThen_ok,p3,Sem.run_ite,ih,Sem.run_pure]
    cases q<;>simp
theorem zF1 {T:List (TyE P)} {op:BinOp} {xt:Nat} {a b:V} {x y:Value} {K:V->Option A} {r:A} (ha:VR ρ a x) (hb:VR ρ b y)
  (h:bink T op xt a b K=some r) (ox oy:Operand):Gives P ρ (do eqGuard op xt ox oy x y;Go.binOp op xt x y) K r:=by
 unfold bink at h
 cases hsh:zvS op with
 | true=>
  simp only [hsh,cond_true] at h
  split at h<;>try (cases h;done)
  rename_i n neg hc
  cases neg with
  | true=>simp at h
  | false=>
   simp only [cond_false] at h
   have hyb:∃k',y= .int k' n/\¬n<0:=by
    cases hb<;>simp [cnt] at hc
    ·obtain ⟨rfl,h2⟩:=hc;exact ⟨_,rfl,by omega⟩
    ·subst hc;rename_i q;have:=Rng.ubd q;exact ⟨_,rfl,by omega⟩
    ·subst hc;rename_i q;have:=Rng.bbd q;exact ⟨_,rfl,by omega⟩
   obtain ⟨k',rfl,hn0⟩:=hyb
   have hg:∀w,(eqGuard op xt ox oy x (.int k' n)).run P w= .ok () w:=fun w=>by
    cases op<;>simp [zvS] at hsh<;>simp [eqGuard]
   intro w
   simp only [Sem.run_bind,hg,Result.andThen_ok]
   cases ha<;>simp only at h<;>first
    | (cases h;done)
    | exact zss (fun z=>VR.i64 z) h xt hn0 w
    | exact zss (fun z=>VR.u64 z) h xt hn0 w
    | exact zss (fun z=>VR.u8 z) h xt hn0 w
 | false=>
  simp only [hsh,cond_false] at h
  intro w
  split at h
  ·cases ha;cases hb
   have hg:∀m n,(eqGuard op xt ox oy (.int .i64 m) (.int .i64 n)).run P w= .ok () w:=fun m n=>by simp only [eqGuard];split<;>rfl
   simp only [Sem.run_bind,hg,Result.andThen_ok]
   exact zq9 (fun z=>VR.i64 z) h xt hsh w
  ·cases ha;cases hb
   have hg:∀m n,(eqGuard op xt ox oy (.int .u64 m) (.int .u64 n)).run P w= .ok () w:=fun m n=>by simp only [eqGuard];split<;>rfl
   simp only [Sem.run_bind,hg,Result.andThen_ok]
   exact zq9 (fun z=>VR.u64 z) h xt hsh w
  ·cases ha;cases hb
   have hg:∀m n,(eqGuard op xt ox oy (.int .u8 m) (.int .u8 n)).run P w= .ok () w:=fun m n=>by simp only [eqGuard];split<;>rfl
   simp only [Sem.run_bind,hg,Result.andThen_ok]
   exact zq9 (fun z=>VR.u8 z) h xt hsh w
  ·cases ha;cases hb
   split at h<;>try (cases h;done)
   rename_i e he
   have hid:=zdC he
   split at h<;>try (cases h;done)
   ·rename_i hk
    have hu:=TyE.bool hk
    rw [hid] at hu
    refine ⟨_,_,?_,.bool _,h⟩
    simp [eqGuard,Go.binOp,Op.equal,Op.maxDepth,run_equalIn_bool' w _ _ _ _ hu]
   ·rename_i hk
    have hu:=TyE.bool hk
    rw [hid] at hu
    refine ⟨_,_,?_,.bool _,h⟩
    simp [eqGuard,Go.binOp,Op.equal,Op.maxDepth,run_equalIn_bool' w _ _ _ _ hu]
  ·cases ha with
   | agg ha=>cases hb with
    | agg hb=>
     split at h<;>try (cases h;done)
     rename_i e he
     have hid:=zdC he
     cases hcmp:e.cmp with
     | false=>simp [hcmp] at h
     | true=>
      simp only [hcmp,cond_true] at h
      split at h<;>try (cases h;done)
      rename_i fs hk
      split at h<;>try (cases h;done)
      rename_i p hp
      have hc:=e.hc
      rw [hcmp] at hc
      simp only [Bool.true_and,Bool.or_eq_false_iff,Bool.not_eq_false'] at hc
      obtain ⟨⟨c1,c2⟩,c3⟩:=hc
      obtain ⟨F,hu,hfs⟩:=e.fields hk
      have hF:P.fieldsOf e.id=F:=by simp [Program.fieldsOf,hu]
      rw [hid] at hu c1 c2 c3 hF
      rw [hF] at c3
      have hrun:=zzR (P:=P) (T:=T) 9997 w ha hb F.toList p c3 (hfs▸hp)
      have hst:=fun m n=>run_equalIn_struct (P:=P) w 9999 xt m n (by rw [hF];exact hu) c2
      rw [hF] at hst
      have hg:∀op' m n,(eqGuard op' xt ox oy (.agg m) (.agg n)).run P w= .ok () w:=fun op' m n=>run_eqGuard_agg w op' xt ox oy m n c1
      simp only [Sem.run_bind,hg,Result.andThen_ok]
      split at h<;>try (cases h;done)
      ·exact ⟨_,_,by rw [run_eql_struct,hst,hrun];rfl,.bool _,h⟩
      ·exact ⟨_,_,by rw [run_neq_struct,hst,hrun];rfl,.bool _,h⟩
  ·cases h
theorem zGh {op:UnOp} {v u:V} {x:Value} (h:unv op v=some u) (hv:VR ρ v x) (w:World):∃y,(Op.unary op x).run P w= .ok y w/\VR ρ u y:=by
 unfold unv at h
 split at h<;>cases h<;>cases hv
 ·exact ⟨_,by simp [Op.unary,Op.intArith];rfl,.i64 (.w .i64 _)⟩
 ·exact ⟨_,by simp [Op.unary,Op.intArith];rfl,.u64 (.w .u64 _)⟩
 ·exact ⟨_,rfl,.i64 (.w .i64 _)⟩
 ·exact ⟨_,rfl,.u64 (.w .u64 _)⟩
 ·exact ⟨_,by simp [Op.unary],.bool _⟩
theorem zIl {e:TyE P} {v u:V} {x:Value} (h:cnv e.kd v=some u) (hv:VR ρ v x) {src:TypeDesc} {st:Nat} (hs:P.underlying st=some src) (w:World):
  ∃y,(Go.convert st e.id x).run P w= .ok y w/\VR ρ u y:=by
 unfold cnv at h
 split at h<;>cases h<;>cases hv<;>rename_i hk<;>have hu:=TyE.int hk <;>
  simp only [Go.convert,Sem.run_bind,run_underlying hs w,run_underlying hu w,Result.andThen_ok,Conv.intToInt,Sem.run_pure]
 all_goals first
  | exact ⟨_,rfl,.i64 (.w .i64 _)⟩
  | exact ⟨_,rfl,.u64 (.w .u64 _)⟩
  | exact ⟨_,rfl,.u8 (.w .u8 _)⟩
  | (refine ⟨_,rfl,?_⟩;rename_i z _ _ _;rw [ze9 z.ok];constructor)
  | (refine ⟨_,rfl,?_⟩;rw [ze9 (Rng.ok _)];constructor)
end
end Go.Proofs.YtaoakfodkoifoaaGreat.Ev
/-
 A small evaluator for the program's code: one operation of a region,and its soundness.
-/
namespace Go.Proofs.YtaoakfodkoifoaaGreat.Ev
open Go Go.RowKit
variable [Amb]
abbrev zmX (A:Type):=Nat->List V->Mem->(V->Mem->Option A)->Option A
def St.evps (s:St):List (Nat×Operand)->Option (List (Nat×V))
 | []=>some []
 | (i,x)::xs=>match s.ev x,s.evps xs with
  | some v,some vs=>some ((i,v)::vs)
  | _,_=>none
def zzQ (pl:Nat->Option (Nat×Nat)):List V->List (Nat×V)->Option (List V)
 | cs,[]=>some cs
 | cs,(i,v)::ps=>
  match pl i with
  | some (o,n)=>bif Nat.beq v.cells.length n&&Nat.ble (o+n) cs.length then zzQ pl (cs.take o++(v.cells++cs.drop (o+n))) ps else none
  | none=>none
def placeOf:Kd->Option (Nat->Option (Nat×Nat))
 | .struct fs=>some fun i=>match nth fs i with|some (o,_,n)=>some (o,n)|none=>none
 | .array _ _ es=>some fun i=>some (i*es,es)
 | _=>none
def mn (a b:I64):I64:=bif decide (b.val<a.val) then b else a
def mx (a b:I64):I64:=bif decide (b.val>a.val) then b else a
def mins:I64->List V->Option I64
 | a,[]=>some a
 | a,.i64 b::t=>mins (mn a b) t
 | _,_=>none
def maxs:I64->List V->Option I64
 | a,[]=>some a
 | a,.i64 b::t=>maxs (mx a b) t
 | _,_=>none
def zmt (b:ByteArray) (n:Nat):U8:= .w .u8 ((b.data.getD n 0).toNat:Int)
def zJo {P:Program} (T:List (TyE P)) (t:Nat) (cs:List V) (o:Nat):Option V:=
 match tyf T t with
 | some e=>match zqA e.kd with
  | some true=>bif Nat.ble (o+e.size) cs.length then some (.agg ((cs.drop o).take e.size)) else none
  | some false=>nth cs o
  | none=>none
 | none=>none
section
variable {P:Program} {A:Type}
def opk (T:List (TyE P)) (call:zmX A) (s:St) (o:Oper) (K:V->Mem->Option A):Option A:=
 match o.op with
 | .move x=>match s.ev x with
  | some v=>K v s.mm
  | none=>none
 | .assign x=>match s.ev x with
  | some v=>K v s.mm
  | none=>none
 | .pick c a b=>match s.ev c with
  | some (.bool t)=>bif t then (match s.ev a with
    | some v=>K v s.mm
    | none=>none) else (match s.ev b with
    | some v=>K v s.mm
    | none=>none)
  | _=>none
 | .alloc t=>match tyf T t with
  | some e=>K (.ptr s.mm.nxt 0) (s.mm.new e.zero)
  | none=>none
 | .box _ x=>match s.ev x with
  | some v=>K (.ptr s.mm.nxt 0) (s.mm.new v.cells)
  | none=>none
 | .build t ps=>match tyf T t,s.evps ps.toList with
  | some e,some vs=>match placeOf e.kd with
   | some pl=>match zzQ pl e.zero vs with
    | some cs=>K (.agg cs) s.mm
    | none=>none
   | none=>none
  | _,_=>none
 | .load t x=>match tyf T t,s.ev x with
  | some e,some (.ptr b off)=>match zqA e.kd with
   | some true=>match s.mm.load b off e.size with
    | some cs=>K (.agg cs) s.mm
    | none=>none
   | some false=>match s.mm.load1 b off with
    | some v=>K v s.mm
    | none=>none
   | none=>none
  | _,_=>none
 | .store t x y=>match tyf T t,s.ev x,s.ev y with
  | some e,some (.ptr b off),some v=>bif Nat.beq v.cells.length e.size then match s.mm.store b off v.cells with
    | some m=>K (.tup []) m
    | none=>none
   else none
  | _,_,_=>none
 | .binOp op xt x y _=>match s.ev x,s.ev y with
  | some a,some b=>bink T op xt a b fun v=>K v s.mm
  | _,_=>none
 | .unOp op _ x=>match s.ev x with
  | some v=>match unv op v with
   | some u=>K u s.mm
   | none=>none
  | none=>none
 | .convert st dt x=>match tyf T st,tyf T dt,s.ev x with
  | some es,some e,some v=>match zqA es.kd,cnv e.kd v with
   | some _,some u=>K u s.mm
   | _,_=>none
  | _,_,_=>none
 | .extract x i=>match s.ev x with
  | some (.tup vs)=>match nth vs i with
   | some v=>K v s.mm
   | none=>none
  | _=>none
 | .field t x i=>match tyf T t,s.ev x with
  | some e,some (.agg cs)=>match e.kd with
   | .struct fs=>match nth fs i with
    | some (off,ft,_)=>match zJo T ft cs off with
     | some v=>K v s.mm
     | none=>none
    | none=>none
   | _=>none
  | _,_=>none
 | .fieldAddr t x i=>match tyf T t,s.ev x with
  | some e,some (.ptr b off)=>match e.kd with
   | .struct fs=>match nth fs i with
    | some (fo,_,n)=>bif Nat.beq n 0 then none else K (.ptr b (off+fo)) s.mm
    | none=>none
   | _=>none
  | _,_=>none
 | .index t x i=>match tyf T t,s.ev x,s.ev i with
  | some e,some (.agg cs),some (.i64 j)=>match e.kd with
   | .array n et es=>bif decide (0<=j.val)&&decide (j.val<(n:Int)) then match tyf T et with
     | some ee=>bif Nat.beq ee.size es then match zJo T et cs (j.val.toNat*es) with
       | some v=>K v s.mm
       | none=>none
      else none
     | none=>none
    else none
   | _=>none
  | some e,some (.str b),some (.u8 j)=>match e.kd with
   | .str=>bif Nat.blt j.val.toNat b.size then K (.u8 (zmt b j.val.toNat)) s.mm else none
   | _=>none
  | _,_,_=>none
 | .indexAddr t x i=>match tyf T t,s.ev x,s.ev i with
  | some e,some v,some (.i64 j)=>match e.kd,v with
   | .slice et es,.slc b off l _=>bif decide (0<=j.val)&&decide (j.val<(l:Int)) && !Nat.beq es 0 then K (.ptr b (off+j.val.toNat*es)) s.mm else none
   | .array n et es,.ptr b off=>bif decide (0<=j.val)&&decide (j.val<(n:Int)) && !Nat.beq es 0 then K (.ptr b (off+j.val.toNat*es)) s.mm else none
   | _,_=>none
  | _,_,_=>none
 | .makeFunc (.func f) first caps=>bif Nat.beq first.size 0 then match s.evs caps.toList with
   | some vs=>K (.fn f vs) s.mm
   | none=>none
  else none
 | .nilCheck x=>match s.ev x with
  | some (.ptr b off)=>K (.ptr b off) s.mm
  | some (.fn f cs)=>K (.fn f cs) s.mm
  | _=>none
 | .buildSlice t n ps=>match tyf T t,s.evps ps.toList with
  | some e,some vs=>match e.kd with
   | .slice et es=>match tyf T et with
    | some ee=>bif Nat.beq ee.size es&&Nat.beq ee.zero.length es&&Nat.ble (n*es) 1000 && !Nat.beq (n*es) 0 then
      match zzQ (fun i=>some (i*es,es)) ((List.range (n*es)).map fun i=>ee.zero.getD (i%es) .nils) vs with
      | some cs=>K (.slc s.mm.nxt 0 n n) (s.mm.new cs)
      | none=>none
     else none
    | none=>none
   | _=>none
  | _,_=>none
 | .call c=>match c.callee with
  | .value f=>match s.ev f,s.evs c.args.toList with
   | some (.fn g caps),some vs=>call g (vs++caps) s.mm K
   | _,_=>none
  | .builtin .min=>match s.evs c.args.toList with
   | some (.i64 a::vs)=>match mins a vs with
    | some r=>K (.i64 r) s.mm
    | none=>none
   | _=>none
  | .builtin .max=>match s.evs c.args.toList with
   | some (.i64 a::vs)=>match maxs a vs with
    | some r=>K (.i64 r) s.mm
    | none=>none
   | _=>none
  | .builtin .len=>match c.argTypes.toList,s.evs c.args.toList with
   | [t],some [.slc _ _ l _]=>match tyf T t with
    | some e=>match e.kd with
     | .slice _ _=>match h:inB .i64 (l:Int) with
      | true=>K (.i64 ⟨(l:Int),h⟩) s.mm
      | false=>none
     | _=>none
    | none=>none
   | [t],some [.arg k]=>match tyf T t with
    | some e=>match e.kd with
     | .slice _ _=>K (.i64 (lenA k)) s.mm
     | _=>none
    | none=>none
   | _,_=>none
  | _=>none
 | _=>none
def zH4 (a b:ByteArray):Bool:=a.data.toList==b.data.toList
theorem zEK (a b:ByteArray):(a.toList==b.toList)=zH4 a b:=by rw [ByteArray.toList_eq,ByteArray.toList_eq];rfl
def opg (T:List (TyE P)) (s:St) (o:Oper):Option (Bool×V):=
 match o.op with
 | .indexAddr t x i=>match tyf T t,s.ev x,s.ev i with
  | some e,some v,some (.i64 j)=>match e.kd,v with
   | .slice et es,.gslc g off l _=>some (decide (0<=j.val)&&decide (j.val<(l:Int)) && !Nat.beq es 0,.glob g (off+j.val.toNat*es))
   | .array n et es,.glob g off=>some (decide (0<=j.val)&&decide (j.val<(n:Int)) && !Nat.beq es 0,.glob g (off+j.val.toNat*es))
   | .slice et es,.arg k=>some (decide (0<=j.val)&&decide (j.val<(Amb.pl k:Int))&&Nat.beq es 2,.argp k j)
   | _,_=>none
  | _,_,_=>none
 | .load t x=>match tyf T t,s.ev x with
  | some e,some (.glob g off)=>match zqA e.kd,zKW g with
   | some false,some cs=>match nth cs off with
    | some v=>some (true,v)
    | none=>none
   | _,_=>none
  | some e,some (.argp k j)=>match zqA e.kd with
   | some true=>some (decide (0<=j.val)&&decide (j.val<(Amb.pl k:Int))&&Nat.beq e.size 2,.agg [.i64 (Amb.el k j.val).1,.i64 (Amb.el k j.val).2])
   | _=>none
  | _,_=>none
 | .slice t x none none none=>match tyf T t,s.ev x with
  | some e,some (.glob g off)=>match e.kd with
   | .array n et es=>some (!Nat.beq es 0 && !Nat.beq n 0,.gslc g off n n)
   | _=>none
  | _,_=>none
 | .slice t x none (some hi) none=>match tyf T t,s.ev x,s.ev hi with
  | some e,some (.str b),some (.i64 j)=>match e.kd with
   | .str=>some (decide (0<=j.val)&&decide (j.val<=(b.size:Int)),.str (b.extract 0 j.val.toNat))
   | _=>none
  | _,_,_=>none
 | .slice t x (some lo) none none=>match tyf T t,s.ev x,s.ev lo with
  | some e,some (.slc b off l c),some (.i64 j)=>match e.kd with
   | .slice et es=>some (decide (0<=j.val)&&(Nat.blt j.val.toNat l&&Nat.ble l c) && !Nat.beq es 0,.slc b (off+j.val.toNat*es) (l-j.val.toNat) (c-j.val.toNat))
   | _=>none
  | some e,some (.str b),some (.i64 j)=>match e.kd with
   | .str=>some (decide (0<=j.val)&&decide (j.val<=(b.size:Int)),.str (b.extract j.val.toNat b.size))
   | _=>none
  | _,_,_=>none
 | .binOp op _ x y _=>match s.ev x,s.ev y,op with
  | some (.str b),some (.str c),.eql=>some (true,.bool (zH4 b c))
  | some (.str b),some (.str c),.neq=>some (true,.bool (!zH4 b c))
  | some (.str b),some (.str c),.add=>some (decide (b.size+c.size<=9223372036854775807),.str (b++c))
  | _,_,_=>none
 | .call c=>match c.callee with
  | .builtin .len=>match c.argTypes.toList,s.evs c.args.toList with
   | [t],some [.gslc _ _ l _]=>match tyf T t with
    | some e=>match e.kd with
     | .slice _ _=>some (inB .i64 (l:Int),.i64 (.w .i64 (l:Int)))
     | _=>none
    | none=>none
   | [t],some [.slc _ _ l _]=>match tyf T t with
    | some e=>match e.kd with
     | .slice _ _=>some (inB .i64 (l:Int),.i64 (.w .i64 (l:Int)))
     | _=>none
    | none=>none
   | [t],some [.str b]=>match tyf T t with
    | some e=>match e.kd with
     | .str=>some (inB .i64 (b.size:Int),.i64 (.w .i64 (b.size:Int)))
     | _=>none
    | none=>none
   | _,_=>none
  | _=>none
 | _=>none
def opk2 (T:List (TyE P)) (call:zmX A) (s:St) (o:Oper) (K:V->Mem->Option A):Option A:=
 match opg T s o with
 | some (g,v)=>bif g then K v s.mm else none
 | none=>opk T call s o K
def quiet:Op->Bool
 | .alloc _ | .box _ _ | .store _ _ _ | .buildSlice _ _ _=>false
 | .call c=>match c.callee with
  | .value _=>false
  | _=>true
 | _=>true
def zqJ (P:Program) (w0:World) (call:zmX A):Prop:=
 ∀(f:Nat) (vs:List V) (m:Mem) (K:V->Mem->Option A) (r:A),call f vs m K=some r->
  ∀(ρ:Nat->Option Nat) (xs:List Value) (w:World),VRs ρ vs xs->MRel w0 ρ m w->
   ∀(o:Oper) (a:Act) (next:Act->World->Prop) (Q:Exit->Act->World->Prop),
    (∀v m' ρ' x w',Ext ρ ρ'->VR ρ' v x->MRel w0 ρ' m' w'->K v m'=some r->next (a.put o.dst x) w')->
    o.upon P a next Q ((callFunc f xs.toArray).run P w)
variable {w0:World} {ρ:Nat->Option Nat} {s:St} {a:Act} {w:World}
theorem Rel.evps (h:Rel w0 ρ s a w):∀ {ps:List (Nat×Operand)} {vs:List (Nat×V)},s.evps ps=some vs->
  (ps.map (·.1))=vs.map (·.1)/\VRs ρ (vs.map (·.2)) (ps.map fun p=>a.eval p.2)
 | [],vs,hv=>by simp [St.evps] at hv;subst hv;exact ⟨rfl,.nil⟩
 | (i,x)::xs,vs,hv=>by
  simp only [St.evps] at hv
  split at hv
  ·rename_i u us hu hus
   cases hv
   obtain ⟨h1,h2⟩:=h.evps hus
   exact ⟨by simp [h1],.cons (h.ev hu) h2⟩
  ·cases hv
theorem foldl_set (c:List Value):∀(off:Nat) (k:Nat) (cs:List Value),off+k+c.length<=cs.length->
  ((c.zipIdx k).foldl (fun (acc:Array Value) (p:Value×Nat)=>acc.setIfInBounds (off+p.2) p.1) cs.toArray)=(cs.take (off+k)++(c++cs.drop (off+k+c.length))).toArray:=by
 induction c with
 | nil=>intro off k cs h;simp
 | cons v c ih=>
  intro off k cs h
  simp only [List.length_cons] at h
  simp only [List.zipIdx_cons,List.foldl_cons,List.setIfInBounds_toArray]
  rw [ih off (k+1) (cs.set (off+k) v) (by simp;omega)]
  congr 1
  apply List.ext_getElem?
  intro j
  simp only [List.getElem?_append,List.getElem?_take,List.getElem?_drop,List.length_take,List.length_set,List.length_cons,List.getElem?_set,List.getElem?_cons]
  have h1:min (off+(k+1)) cs.length=off+k+1:=by omega
  have h2:min (off+k) cs.length=off+k:=by omega
  rw [h1,h2]
  by_cases hj:j<off+k
  ·simp [hj,show j<off+k+1 by omega,show ¬off+k=j by omega,show j<off+(k+1) by omega]
  ·by_cases hj':j=off+k
   ·subst hj';simp [show off+k<off+(k+1) by omega];omega
   ·have e:j-(off+k)=(j-(off+k+1))+1:=by omega
    simp only [show ¬j<off+k by omega,show ¬j<off+k+1 by omega,if_false,e]
    simp only [Nat.add_sub_cancel,List.length_cons,Nat.add_lt_add_iff_right,show ¬(j-(off+k+1)+1=0) by omega,if_false]
    split
    ·rfl
    ·rw [if_neg (by omega)];congr 1;omega
theorem zus {pl:Nat->Option (Nat×Nat)}:∀(ps:List (Nat×V)) (cs:List V) (cs':List V) (xs:List Value) (is:List Nat) (ys:List Value),zzQ pl cs ps=some cs'->VRs ρ cs xs->
  VRs ρ (ps.map (·.2)) ys->is=ps.map (·.1)->∃xs',Instr.fill pl xs.toArray (is.zip ys)=some xs'.toArray/\VRs ρ cs' xs'
 | [],cs,cs',xs,is,ys,h,hc,hy,hi=>by
  simp [zzQ] at h;subst h;simp at hi;subst hi;cases hy
  exact ⟨xs,by simp [Instr.fill],hc⟩
 | (i,v)::ps,cs,cs',xs,is,ys,h,hc,hy,hi=>by
  simp only [List.map_cons] at hy hi
  subst hi
  cases hy with
  | cons hv ht=>
   rename_i y yt
   simp only [zzQ] at h
   split at h<;>try (cases h;done)
   rename_i o n hpl
   cases hb:(Nat.beq v.cells.length n&&Nat.ble (o+n) cs.length) with
   | false=>simp [hb] at h
   | true=>
    simp only [hb,cond_true] at h
    simp only [Bool.and_eq_true] at hb
    have hn:v.cells.length=n:=Nat.eq_of_beq_eq_true hb.1
    have hle:=Nat.le_of_ble_eq_true hb.2
    have hvc:=hv.cells
    have l1:y.cells.size=n:=by have:=hvc.length;simpa [hn] using this
    have l2:=hc.length
    have hf:=foldl_set y.cells.toList o 0 xs (by simp;omega)
    have hstep:VRs ρ (cs.take o++(v.cells++cs.drop (o+n))) (xs.take o++(y.cells.toList++xs.drop (o+n))):=
     (hc.take o).append (hvc.append (hc.drop _))
    obtain ⟨xs',h1,h2⟩:=zus ps _ cs' _ _ yt h hstep ht rfl
    refine ⟨xs',?_,h2⟩
    simp only [List.zip_cons_cons,Instr.fill,hpl]
    have e:Array.foldl (fun (acc:Array Value) (p:Value×Nat)=>acc.setIfInBounds (o+p.2) p.1) xs.toArray y.cells.zipIdx=(xs.take o++(y.cells.toList++xs.drop (o+n))).toArray:=by
     rw [<- Array.foldl_toList,Array.toList_zipIdx]
     rw [hf];simp [l1]
    rw [if_neg (by simp [l1];omega)]
    rw [show (fun (cs:Array Value) (x:Value×Nat)=>match x with|(c,j)=>cs.setIfInBounds (o+j) c)=fun (acc:Array Value) (p:Value×Nat)=>acc.setIfInBounds (o+p.2) p.1 from rfl,e]
    exact h1
theorem zD9 {T:List (TyE P)} {t:Nat} {cs:List V} {xs:List Value} {o:Nat} {v:V} (h:zJo T t cs o=some v) (hc:VRs ρ cs xs) (w:World):
  ∃x,(part t xs.toArray o).run P w= .ok x w/\VR ρ v x:=by
 unfold zJo at h
 split at h<;>try (cases h;done)
 rename_i e he
 have hid:=zdC he
 have l2:=hc.length
 split at h<;>try (cases h;done)
 ·rename_i hk
  cases hle:Nat.ble (o+e.size) cs.length with
  | false=>simp [hle] at h
  | true=>
   simp [hle] at h;subst h
   have hle':=Nat.le_of_ble_eq_true hle
   have h1:=e.run_agg hk w
   have h2:=e.run_size w
   rw [hid] at h1 h2
   refine ⟨_,by simp only [part,Sem.run_bind,h1,h2,Result.andThen_ok,if_true,Sem.run_pure];rfl,?_⟩
   have:xs.toArray.extract o (o+e.size)=((xs.drop o).take e.size).toArray:=by simp [List.extract_eq_take_drop]
   rw [this]
   exact .agg ((hc.drop o).take _)
 ·rename_i hk
  have h1:=e.run_agg hk w
  rw [hid] at h1
  rw [zpB] at h
  obtain ⟨x,hx,hv⟩:=hc.get o h
  exact ⟨x,by simp [part,h1,hx],hv⟩
theorem zEr {w:World}:∀(vs:List V) (xs:List Value) (a r:I64),mins a vs=some r->VRs ρ vs xs->
  (xs.foldlM Builtin.min2 (.int .i64 a.val)).run P w= .ok (.int .i64 r.val) w
 | [],xs,a,r,h,hv=>by simp [mins] at h;subst h;cases hv;simp
 | v::vs,xs,a,r,h,hv=>by
  cases hv with
  | cons hv ht=>
   cases hv<;>simp only [mins] at h<;>try (cases h;done)
   rename_i b
   have ih:=zEr (w:=w) vs _ _ r h ht
   have e:(mn a b).val=if b.val<a.val then b.val else a.val:=by unfold mn;by_cases hb:b.val<a.val<;>simp [hb]
   simp only [List.foldlM_cons,Builtin.min2,pure_bind]
   rw [<- e];exact ih
theorem zEt {w:World}:∀(vs:List V) (xs:List Value) (a r:I64),maxs a vs=some r->VRs ρ vs xs->
  (xs.foldlM Builtin.max2 (.int .i64 a.val)).run P w= .ok (.int .i64 r.val) w
 | [],xs,a,r,h,hv=>by simp [maxs] at h;subst h;cases hv;simp
 | v::vs,xs,a,r,h,hv=>by
  cases hv with
  | cons hv ht=>
   cases hv<;>simp only [maxs] at h<;>try (cases h;done)
   rename_i b
   have ih:=zEt (w:=w) vs _ _ r h ht
   have e:(mx a b).val=if b.val>a.val then b.val else a.val:=by unfold mx;by_cases hb:b.val>a.val<;>simp [hb]
   simp only [List.foldlM_cons,Builtin.max2,pure_bind]
   rw [<- e];exact ih
theorem zpA {T:List (TyE P)} {call:zmX A} (hcall:zqJ P w0 call) {o:Oper} {K:V->Mem->Option A} {r:A} (hk:opk T call s o K=some r) (h:Rel w0 ρ s a w)
  {next:Act->World->Prop} {Q:Exit->Act->World->Prop}
  (hn:∀v m' ρ' x w',Ext ρ ρ'->VR ρ' v x->MRel w0 ρ' m' w'->(quiet o.op=true->ρ'=ρ/\w'=w)->K v m'=some r->next (a.put o.dst x) w'):
  o.upon P a next Q ((execOp a.eval o).run P w):=by
 have key:∀(S:Sem Value) (v:V) (x:Value),S.run P w= .ok x w->VR ρ v x->K v s.mm=some r->
   o.upon P a next Q ((do let y <- S;pure (Next.value y):Sem Next).run P w):=fun S v x h1 h2 h3=>by
  simp only [Sem.run_bind,h1,Result.andThen_ok,Sem.run_pure,Oper.upon]
  exact hn v s.mm ρ x w (Ext.refl _) h2 h.mr (fun _=>⟨rfl,rfl⟩) h3
 unfold opk at hk
 split at hk
 ·-- move
  rename_i x ho
  split at hk<;>try (cases hk;done)
  rename_i v hv
  simp only [execOp,ho,Sem.run_pure,Oper.upon]
  exact hn v _ ρ _ w (Ext.refl _) (h.ev hv) h.mr (fun _=>⟨rfl,rfl⟩) hk
 ·-- assign
  rename_i x ho
  split at hk<;>try (cases hk;done)
  rename_i v hv
  simp only [execOp,ho,Sem.run_pure,Oper.upon]
  exact hn v _ ρ _ w (Ext.refl _) (h.ev hv) h.mr (fun _=>⟨rfl,rfl⟩) hk
 ·-- pick
  rename_i c x y ho
  split at hk<;>try (cases hk;done)
  rename_i t hc
  have hcv:=h.ev hc
  cases ht:a.eval c<;>rw [ht] at hcv<;>cases hcv
  simp only [execOp,ho,ht,asBool,Sem.run_bind,Sem.run_pure,Result.andThen_ok,Oper.upon]
  cases t with
  | true=>
   simp only [cond_true] at hk
   split at hk<;>try (cases hk;done)
   rename_i v hv
   simp only [if_true]
   exact hn v _ ρ _ w (Ext.refl _) (h.ev hv) h.mr (fun _=>⟨rfl,rfl⟩) hk
  | false=>
   simp only [cond_false] at hk
   split at hk<;>try (cases hk;done)
   rename_i v hv
   simp only [Bool.false_eq_true,if_false]
   exact hn v _ ρ _ w (Ext.refl _) (h.ev hv) h.mr (fun _=>⟨rfl,rfl⟩) hk
 ·-- alloc
  rename_i t ho
  split at hk<;>try (cases hk;done)
  rename_i e he
  have hid:=zdC he
  obtain ⟨z,hz,hzc⟩:=e.run_zero w
  rw [hid] at hz
  obtain ⟨ρ',e1,e2,e3⟩:=h.mr.new (VRs.valD e.hp) t
  have hzc':z.cells=(e.zero.map V.valD).toArray:=by rw [<- hzc]
  simp only [execOp,ho,Instr.alloc,Sem.run_bind,hz,Result.andThen_ok,newVar,newRow,run_newObj,Sem.run_pure,Oper.upon,hzc']
  exact hn _ _ ρ' _ _ e1 (.ptr e2) e3 (fun hq=>by simp [ho,quiet] at hq) hk
 ·-- box
  rename_i t x ho
  split at hk<;>try (cases hk;done)
  rename_i v hv
  have hc:=(h.ev hv).cells
  obtain ⟨ρ',e1,e2,e3⟩:=h.mr.new hc t
  simp only [execOp,ho,Instr.box,newVar,newRow,Sem.run_bind,run_newObj,Result.andThen_ok,Sem.run_pure,Oper.upon]
  simp only [Array.toArray_toList] at e3
  exact hn _ _ ρ' _ _ e1 (.ptr e2) e3 (fun hq=>by simp [ho,quiet] at hq) hk
 ·-- build
  rename_i t ps ho
  split at hk<;>try (cases hk;done)
  rename_i e vs he hvs
  have hid:=zdC he
  split at hk<;>try (cases hk;done)
  rename_i pl hpl
  split at hk<;>try (cases hk;done)
  rename_i cs hcs
  obtain ⟨h1,h2⟩:=h.evps hvs
  obtain ⟨z,hz,hzc⟩:=e.run_zero w
  obtain ⟨xs',h3,h4⟩:=zus (ρ:=ρ) vs e.zero cs (e.zero.map V.valD) (ps.toList.map (·.1)) _ hcs (VRs.valD e.hp) h2 h1
  have hzip:(ps.toList.map (·.1)).zip (ps.toList.map fun p=>a.eval p.2)=(ps.map fun (p:Nat×Operand)=>(p.1,a.eval p.2)).toList:=by
   rw [Array.toList_map]
   induction ps.toList with
   | nil=>rfl
   | cons p t ih=>simp [ih]
  rw [hzip,<- hzc] at h3
  simp only [Array.toArray_toList] at h3
  rw [hid] at hz
  have hrun:(Instr.build t (ps.map fun (p:Nat×Operand)=>(p.1,a.eval p.2))).run P w= .ok (.agg xs'.toArray) w:=by
   apply run_build
   obtain ⟨it,hit,_,z',hz1,hz2⟩:=e.info
   rw [hid] at hit
   have hzz:z'=z:=by
    have:(zeroValue t).run P w= .ok z' w:=by simp [zeroValue,typeInfo,hit,hz1]
    rw [hz] at this;cases this;rfl
   subst hzz
   have hff:=e.hf
   rw [hid] at hff
   unfold Program.built
   cases hkd:e.kd<;>rw [hkd] at hpl<;>simp only [placeOf] at hpl<;>try (cases hpl;done)
   ·rename_i fs
    obtain ⟨F,hu,hfs⟩:=e.fields hkd
    rw [hid] at hu
    rw [hu] at hff
    have hm:F.toList.mapM (fun f=>(P.info? f.type).map fun i=>(f.offset,i.size))=some (F.toList.map fun f=>(f.offset,P.cellsOf f.type)):=by
     simp only at hff
     generalize F.toList=L at hff
     induction L with
     | nil=>rfl
     | cons f L ih=>
      simp only [List.all_cons,Bool.and_eq_true] at hff
      obtain ⟨i,hi⟩:=Option.isSome_iff_exists.1 hff.1
      have hc:P.cellsOf f.type=i.size:=by simp [Program.cellsOf,hi]
      simp [List.mapM_cons,hi,ih hff.2,hc]
    simp only [hit,hu,hz1,hm]
    have hpl':=Option.some.inj hpl
    have hfun:(fun i=>(F.toList.map fun f=>(f.offset,P.cellsOf f.type)).toArray[i]?)=pl:=by
     rw [<- hpl',hfs]
     funext i
     rw [zpB]
     simp only [List.getElem?_toArray,List.getElem?_map]
     cases F.toList[i]?<;>rfl
    rw [hfun];exact h3
   ·rename_i n et es
    have hkk:=e.hk
    rw [hkd,hid] at hkk
    unfold kdOf at hkk
    cases hd:P.underlying t with
    | none=>rw [hd] at hkk;simp at hkk
    | some d=>
     rw [hd] at hkk
     cases d<;>simp at hkk
     rename_i len0 elem0
     obtain ⟨rfl,rfl,rfl⟩:=hkk
     rw [hd] at hff
     simp only at hff
     obtain ⟨i,hi⟩:=Option.isSome_iff_exists.1 hff
     have hc:P.cellsOf elem0=i.size:=by simp [Program.cellsOf,hi]
     simp only [hit,hz1,hi]
     have hpl':=Option.some.inj hpl
     rw [<- hc,hpl'];exact h3
  have:=key _ _ _ hrun (.agg h4) hk
  simpa only [execOp,ho] using this
 ·-- load
  rename_i t x ho
  split at hk<;>try (cases hk;done)
  rename_i e b off he hx
  have hid:=zdC he
  have hxv:=h.ev hx
  cases hxe:a.eval x<;>rw [hxe] at hxv<;>cases hxv
  rename_i r hr
  split at hk<;>try (cases hk;done)
  ·rename_i hagg
   split at hk<;>try (cases hk;done)
   rename_i cs hcs
   obtain ⟨r',ys,hr',hl,hv⟩:=h.mr.load (P:=P) hcs
   rw [hr] at hr';cases hr'
   have h1:=e.run_agg hagg w
   have h2:=e.run_size w
   rw [hid] at h1 h2
   have hrun:(Instr.loadAt t (.pointer (some ⟨r,off,none⟩))).run P w= .ok (.agg ys.toArray) w:=by
    simp [Instr.loadAt,Instr.sureAddr,loadVar,h1,h2,hl]
   have:=key _ _ _ hrun (.agg hv) hk
   simpa only [execOp,ho,hxe] using this
  ·rename_i hagg
   split at hk<;>try (cases hk;done)
   rename_i v hl
   obtain ⟨r',y,hr',hc,hv⟩:=h.mr.load1 hl
   rw [hr] at hr';cases hr'
   have h1:=e.run_agg hagg w
   rw [hid] at h1
   have hrun:(Instr.loadAt t (.pointer (some ⟨r,off,none⟩))).run P w= .ok y w:=by
    simp [Instr.loadAt,Instr.sureAddr,loadVar,h1,hc]
   have:=key _ _ _ hrun hv hk
   simpa only [execOp,ho,hxe] using this
 ·-- store
  rename_i t x y ho
  split at hk<;>try (cases hk;done)
  rename_i e b off v he hx hy
  have hid:=zdC he
  have hxv:=h.ev hx
  cases hxe:a.eval x<;>rw [hxe] at hxv<;>cases hxv
  rename_i r hr
  have hyv:=(h.ev hy).cells
  cases hsz:Nat.beq v.cells.length e.size with
  | false=>simp [hsz] at hk
  | true=>
   simp only [hsz,cond_true] at hk
   split at hk<;>try (cases hk;done)
   rename_i m hm
   obtain ⟨r',w',hr',hrun,hmr⟩:=h.mr.store (P:=P) hm hyv
   rw [hr] at hr';cases hr'
   have hl:=hyv.length
   have hsz':=Nat.eq_of_beq_eq_true hsz
   have h2:=e.run_size w
   rw [hid] at h2
   have hcl:(a.eval y).cells.size=e.size:=by simpa [hsz'] using hl
   simp only [execOp,ho,hxe,Instr.storeAt,Instr.sureAddr,storeVar,Sem.run_bind,Sem.run_pure,Result.andThen_ok,h2,hcl,ne_eq,not_true_eq_false,if_false,hrun,Oper.upon]
   exact hn _ _ ρ _ _ (Ext.refl _) (.tup (xs:= []) .nil) hmr (fun hq=>by simp [ho,quiet] at hq) hk
 ·-- binOp
  rename_i op xt x y yt ho
  split at hk<;>try (cases hk;done)
  rename_i u v hu hv
  obtain ⟨z,zx,h1,h2,h3⟩:=zF1 (P:=P) (h.ev hu) (h.ev hv) hk x y w
  have:=key _ z zx h1 h2 h3
  simpa only [execOp,ho] using this
 ·-- unOp
  rename_i op xt x ho
  split at hk<;>try (cases hk;done)
  rename_i v hv
  split at hk<;>try (cases hk;done)
  rename_i u hu
  obtain ⟨y,h1,h2⟩:=zGh (P:=P) hu (h.ev hv) w
  have:=key _ _ _ h1 h2 hk
  simpa only [execOp,ho] using this
 ·-- convert
  rename_i st dt x ho
  split at hk<;>try (cases hk;done)
  rename_i es e v hes he hv
  split at hk<;>try (cases hk;done)
  rename_i bb u hbb hu
  have hid:=zdC he
  have hids:=zdC hes
  have hsrc:∃d,P.underlying st=some d:=by
   have hkk:=es.hk
   rw [hids] at hkk
   unfold kdOf at hkk
   cases hd:P.underlying st with
   | none=>rw [hd] at hkk;simp only at hkk;rw [<- hkk] at hbb;simp [zqA] at hbb
   | some d=>exact ⟨d,rfl⟩
  obtain ⟨d,hd⟩:=hsrc
  obtain ⟨y,h1,h2⟩:=zIl (P:=P) hu (h.ev hv) hd w
  rw [hid] at h1
  have:=key _ _ _ h1 h2 hk
  simpa only [execOp,ho] using this
 ·-- extract
  rename_i x i ho
  split at hk<;>try (cases hk;done)
  rename_i vs hx
  split at hk<;>try (cases hk;done)
  rename_i v hv
  have hxv:=h.ev hx
  cases hxe:a.eval x<;>rw [hxe] at hxv<;>cases hxv
  rename_i xs hxs
  rw [zpB] at hv
  obtain ⟨y,hy,hr⟩:=hxs.get i hv
  have hrun:(Instr.extract (.tuple xs.toArray) i).run P w= .ok y w:=by simp [Instr.extract,hy]
  have:=key _ _ _ hrun hr hk
  simpa only [execOp,ho,hxe] using this
 ·-- field
  rename_i t x i ho
  split at hk<;>try (cases hk;done)
  rename_i e cs he hx
  have hid:=zdC he
  split at hk<;>try (cases hk;done)
  rename_i fs hkd
  split at hk<;>try (cases hk;done)
  rename_i off ft n hf
  split at hk<;>try (cases hk;done)
  rename_i v hv
  have hxv:=h.ev hx
  cases hxe:a.eval x<;>rw [hxe] at hxv<;>cases hxv
  rename_i xs hxs
  obtain ⟨F,hu,hfs⟩:=e.fields hkd
  rw [hid] at hu
  rw [hfs,zpB] at hf
  simp only [List.getElem?_map,Option.map_eq_some_iff] at hf
  obtain ⟨f,hf1,hf2⟩:=hf
  simp only [Prod.mk.injEq] at hf2
  obtain ⟨rfl,rfl,rfl⟩:=hf2
  obtain ⟨y,h1,h2⟩:=zD9 (P:=P) hv hxs w
  have hrun:(Instr.field t (.agg xs.toArray) i).run P w= .ok y w:=by
   have hf1':F[i]?=some f:=by simpa using hf1
   simp [Instr.field,run_underlying hu,hf1',asAgg,h1]
  have:=key _ _ _ hrun h2 hk
  simpa only [execOp,ho,hxe] using this
 ·-- fieldAddr
  rename_i t x i ho
  split at hk<;>try (cases hk;done)
  rename_i e b off he hx
  have hid:=zdC he
  split at hk<;>try (cases hk;done)
  rename_i fs hkd
  split at hk<;>try (cases hk;done)
  rename_i fo ft n hf
  have hxv:=h.ev hx
  cases hxe:a.eval x<;>rw [hxe] at hxv<;>cases hxv
  rename_i r hr
  obtain ⟨F,hu,hfs⟩:=e.fields hkd
  rw [hid] at hu
  rw [hfs,zpB] at hf
  simp only [List.getElem?_map,Option.map_eq_some_iff] at hf
  obtain ⟨f,hf1,hf2⟩:=hf
  simp only [Prod.mk.injEq] at hf2
  obtain ⟨rfl,rfl,rfl⟩:=hf2
  cases hz:Nat.beq (P.cellsOf f.type) 0 with
  | true=>simp [hz] at hk
  | false=>
   simp only [hz,cond_false] at hk
   have hz':P.cellsOf f.type≠0:=fun hh=>by rw [hh] at hz;cases hz
   have hsz:=ziF (P:=P) (t:=f.type) rfl hz' w
   have hrun:(Instr.fieldAt t (.pointer (some ⟨r,off,none⟩)) i).run P w= .ok (.pointer (some ⟨r,off+f.offset,none⟩)) w:=by
    have hf1':F[i]?=some f:=by simpa using hf1
    simp [Instr.fieldAt,run_underlying hu,hf1',Instr.sureAddr,fieldPlace,hsz,hz',addr_add]
   have:=key _ _ _ hrun (.ptr hr) hk
   simpa only [execOp,ho,hxe] using this
 ·-- index
  rename_i t x i ho
  split at hk<;>try (cases hk;done)
  ·rename_i e cs j he hx hi
   have hid:=zdC he
   split at hk<;>try (cases hk;done)
   rename_i n et es hkd
   have hxv:=h.ev hx
   cases hxe:a.eval x<;>rw [hxe] at hxv<;>cases hxv
   rename_i xs hxs
   have hiv:=h.ev hi
   cases hie:a.eval i<;>rw [hie] at hiv<;>cases hiv
   cases hb:(decide (0<=j.val)&&decide (j.val<(n:Int))) with
   | false=>simp [hb] at hk
   | true=>
    simp only [hb,cond_true] at hk
    simp only [Bool.and_eq_true,decide_eq_true_eq] at hb
    split at hk<;>try (cases hk;done)
    rename_i ee hee
    have hide:=zdC hee
    cases hsz:Nat.beq ee.size es with
    | false=>simp [hsz] at hk
    | true=>
     simp only [hsz,cond_true] at hk
     have hsz':=Nat.eq_of_beq_eq_true hsz
     split at hk<;>try (cases hk;done)
     rename_i v hv
     obtain ⟨y,h1,h2⟩:=zD9 (P:=P) hv hxs w
     have hu:P.underlying t=some (.array n et):=by
      have hkk:=e.hk
      rw [hkd,hid] at hkk
      unfold kdOf at hkk
      cases hd:P.underlying t with
      | none=>rw [hd] at hkk;simp at hkk
      | some d=>rw [hd] at hkk;cases d<;>simp at hkk;obtain ⟨rfl,rfl,_⟩:=hkk;rfl
     have hs:=ee.run_size w
     rw [hide,hsz'] at hs
     have hrun:(Instr.index t (.agg xs.toArray) (.int .i64 j.val)).run P w= .ok y w:=by
      simp [Instr.index,asIntOf,run_underlying hu,hb,hs,h1]
     have:=key _ _ _ hrun h2 hk
     simpa only [execOp,ho,hxe,hie] using this
  ·rename_i e b j he hx hi
   have hid:=zdC he
   split at hk<;>try (cases hk;done)
   rename_i hkd
   have hxv:=h.ev hx
   cases hxe:a.eval x<;>rw [hxe] at hxv<;>cases hxv
   have hiv:=h.ev hi
   cases hie:a.eval i<;>rw [hie] at hiv<;>cases hiv
   cases hb:Nat.blt j.val.toNat b.size with
   | false=>simp [hb] at hk
   | true=>
    simp only [hb,cond_true] at hk
    have hb':j.val.toNat<b.size:=by simpa using hb
    have hu:P.underlying t=some .string:=by
     have hkk:=e.hk
     rw [hkd,hid] at hkk
     unfold kdOf at hkk
     cases hd:P.underlying t with
     | none=>rw [hd] at hkk;simp at hkk
     | some d=>rw [hd] at hkk;cases d<;>simp at hkk;rfl
    have h0:0<=j.val:=by have:=j.ok;simp [inB] at this;omega
    have hg:b[j.val.toNat]?=some b[j.val.toNat]:=by simp [hb']
    have hval:(zmt b j.val.toNat).val=(b[j.val.toNat].toNat:Int):=by
     have e1:b.data.getD j.val.toNat 0=b[j.val.toNat]:=by
      simp [Array.getD,hb'];rfl
     have e2:b[j.val.toNat].toNat<256:=UInt8.toNat_lt _
     unfold zmt
     rw [e1]
     exact ze9 (k:= .u8) (by simp [inB];omega)
    have hrun:(Instr.index t (.string b) (.int .u8 j.val)).run P w= .ok (.int .u8 (zmt b j.val.toNat).val) w:=by
     simp [Instr.index,asIntOf,run_underlying hu,h0,hg,hval]
    have:=key _ _ _ hrun (.u8 _) hk
    simpa only [execOp,ho,hxe,hie] using this
 ·-- indexAddr
  rename_i t x i ho
  split at hk<;>try (cases hk;done)
  rename_i e v j he hx hi
  have hid:=zdC he
  have hiv:=h.ev hi
  cases hie:a.eval i<;>rw [hie] at hiv<;>cases hiv
  have hxv:=h.ev hx
  have hkk:=e.hk
  rw [hid] at hkk
  split at hk<;>try (cases hk;done)
  ·rename_i et es b off l c hkd
   cases hb:(decide (0<=j.val)&&decide (j.val<(l:Int)) && !Nat.beq es 0) with
   | false=>simp [hb] at hk
   | true=>
    simp only [hb,cond_true] at hk
    simp only [Bool.and_eq_true,decide_eq_true_eq,Bool.not_eq_true'] at hb
    obtain ⟨⟨hb1,hb2⟩,hb3⟩:=hb
    cases hxe:a.eval x<;>rw [hxe] at hxv<;>cases hxv
    rename_i r hr
    rw [hkd] at hkk
    unfold kdOf at hkk
    cases hd:P.underlying t with
    | none=>rw [hd] at hkk;simp at hkk
    | some d=>
     rw [hd] at hkk
     cases d<;>simp at hkk
     rename_i elem0
     obtain ⟨rfl,rfl⟩:=hkk
     have hs:=ziF (P:=P) (t:=elem0) rfl (fun hh=>by rw [hh] at hb3;cases hb3) w
     have hrun:(Instr.indexAt t (.slice (some ⟨r,off,none⟩) l c) (.int .i64 j.val)).run P w= .ok (.pointer (some ⟨r,off+j.val.toNat*P.cellsOf elem0,none⟩)) w:=by
      simp [Instr.indexAt,asIntOf,run_underlying hd,hb1,hb2,hs,addr_add]
     have:=key _ _ _ hrun (.ptr hr) hk
     simpa only [execOp,ho,hxe,hie] using this
  ·rename_i n et es b off hkd
   cases hb:(decide (0<=j.val)&&decide (j.val<(n:Int)) && !Nat.beq es 0) with
   | false=>simp [hb] at hk
   | true=>
    simp only [hb,cond_true] at hk
    simp only [Bool.and_eq_true,decide_eq_true_eq,Bool.not_eq_true'] at hb
    obtain ⟨⟨hb1,hb2⟩,hb3⟩:=hb
    cases hxe:a.eval x<;>rw [hxe] at hxv<;>cases hxv
    rename_i r hr
    rw [hkd] at hkk
    unfold kdOf at hkk
    cases hd:P.underlying t with
    | none=>rw [hd] at hkk;simp at hkk
    | some d=>
     rw [hd] at hkk
     cases d<;>simp at hkk
     rename_i len0 elem0
     obtain ⟨rfl,rfl,rfl⟩:=hkk
     have hs:=ziF (P:=P) (t:=elem0) rfl (fun hh=>by rw [hh] at hb3;cases hb3) w
     have hrun:(Instr.indexAt t (.pointer (some ⟨r,off,none⟩)) (.int .i64 j.val)).run P w= .ok (.pointer (some ⟨r,off+j.val.toNat*P.cellsOf elem0,none⟩)) w:=by
      simp [Instr.indexAt,asIntOf,run_underlying hd,Instr.sureAddr,hb1,hb2,hs,addr_add]
     have:=key _ _ _ hrun (.ptr hr) hk
     simpa only [execOp,ho,hxe,hie] using this
 ·-- makeFunc
  rename_i f first caps ho
  cases hz:Nat.beq first.size 0 with
  | false=>simp [hz] at hk
  | true=>
   simp only [hz,cond_true] at hk
   split at hk<;>try (cases hk;done)
   rename_i vs hvs
   have h1:=h.evs hvs
   have hf:first=#[]:=Array.eq_empty_of_size_eq_zero (Nat.eq_of_beq_eq_true hz)
   subst hf
   have hrun:(Instr.makeFunc (.func f) (#[].map a.eval) (caps.map a.eval)).run P w= .ok (.func (.func f) #[] (caps.toList.map a.eval).toArray) w:=by
    have e:caps.map a.eval=(caps.toList.map a.eval).toArray:=by apply Array.ext';simp
    have e2:(#[]:Array Operand).map a.eval=#[]:=by apply Array.ext';simp
    rw [<- e,e2];rfl
   have:=key _ _ _ hrun (.fn h1) hk
   simpa only [execOp,ho] using this
 ·-- nilCheck
  rename_i x ho
  split at hk<;>try (cases hk;done)
  ·rename_i b off hx
   have hxv:=h.ev hx
   cases hxe:a.eval x<;>rw [hxe] at hxv<;>cases hxv
   rename_i r hr
   simp only [execOp,ho,hxe,Sem.run_pure,Oper.upon]
   exact hn _ _ ρ _ w (Ext.refl _) (.ptr hr) h.mr (fun _=>⟨rfl,rfl⟩) hk
  ·rename_i f cs hx
   have hxv:=h.ev hx
   cases hxe:a.eval x<;>rw [hxe] at hxv<;>cases hxv
   rename_i xs hxs
   simp only [execOp,ho,hxe,Sem.run_pure,Oper.upon]
   exact hn _ _ ρ _ w (Ext.refl _) (.fn hxs) h.mr (fun _=>⟨rfl,rfl⟩) hk
 ·-- buildSlice
  rename_i t n ps ho
  split at hk<;>try (cases hk;done)
  rename_i e vs he hvs
  have hid:=zdC he
  split at hk<;>try (cases hk;done)
  rename_i et es hkd
  split at hk<;>try (cases hk;done)
  rename_i ee hee
  have hide:=zdC hee
  cases hb:(Nat.beq ee.size es&&Nat.beq ee.zero.length es&&Nat.ble (n*es) 1000 && !Nat.beq (n*es) 0) with
  | false=>simp [hb] at hk
  | true=>
   simp only [hb,cond_true] at hk
   simp only [Bool.and_eq_true,Bool.not_eq_true'] at hb
   obtain ⟨⟨⟨b1,b3⟩,b4⟩,b5⟩:=hb
   have b1:=Nat.eq_of_beq_eq_true b1
   have b3:=Nat.eq_of_beq_eq_true b3
   have b4:=Nat.le_of_ble_eq_true b4
   have b5:n*es≠0:=fun hh=>by rw [hh] at b5;cases b5
   have bes:0<es:=Nat.pos_of_ne_zero fun hh=>b5 (by rw [hh,Nat.mul_zero])
   split at hk<;>try (cases hk;done)
   rename_i cs hcs
   obtain ⟨h1,h2⟩:=h.evps hvs
   obtain ⟨z,hz,hzc⟩:=ee.run_zero w
   have hkk:=e.hk
   rw [hid,hkd] at hkk
   unfold kdOf at hkk
   cases hd:P.underlying t with
   | none=>rw [hd] at hkk;simp at hkk
   | some d=>
    rw [hd] at hkk
    cases d<;>simp at hkk
    rename_i elem0
    obtain ⟨rfl,hes⟩:=hkk
    have hp:=ee.hp
    have hzs:z.cells.size=es:=by have:=congrArg List.length hzc;simpa [b3] using this
    have hat:∀i,i<es->VR ρ (ee.zero.getD i .nils) (z.cells[i]!):=by
     intro i hi
     have hi':i<ee.zero.length:=by omega
     have e1:ee.zero.getD i .nils=ee.zero[i]:=by simp [List.getD,hi']
     have e2:z.cells[i]! = (ee.zero[i]).valD:=by
      have:z.cells.toList[i]?=some (ee.zero[i]).valD:=by rw [hzc];simp [hi']
      have h3:z.cells[i]?=some (ee.zero[i]).valD:=by simpa using this
      have hi2:i<z.cells.size:=by omega
      rw [getElem!_pos z.cells i hi2]
      simpa [hi2] using h3
     rw [e1,e2]
     exact VR.valD (List.all_eq_true.1 hp _ (List.getElem_mem hi'))
    have hz0r:VRs ρ ((List.range (n*es)).map fun i=>ee.zero.getD (i%es) .nils) ((List.range (n*es)).map fun i=>z.cells[i%z.cells.size]!):=by
     rw [hzs]
     induction List.range (n*es) with
     | nil=>exact .nil
     | cons i t ih=>exact .cons (hat _ (Nat.mod_lt _ bes)) ih
    obtain ⟨xs',h3,h4⟩:=zus (ρ:=ρ) vs _ cs _ (ps.toList.map (·.1)) _ hcs hz0r h2 h1
    have hzip:(ps.toList.map (·.1)).zip (ps.toList.map fun p=>a.eval p.2)=(ps.map fun (p:Nat×Operand)=>(p.1,a.eval p.2)).toList:=by
     rw [Array.toList_map]
     induction ps.toList with
     | nil=>rfl
     | cons p t ih=>simp [ih]
    rw [hzip] at h3
    have hs:=ee.run_size w
    rw [hide,b1] at hs
    rw [hide] at hz
    have hrow:(Array.range (n*es)).map (fun i=>z.cells[i%z.cells.size]!)=((List.range (n*es)).map fun i=>z.cells[i%z.cells.size]!).toArray:=by
     apply Array.ext
     ·simp
     ·intro i h1 h2;simp
    obtain ⟨ρ',e1,e2,e3⟩:=h.mr.new h4 elem0
    have hrun:(Instr.buildSlice t n (ps.map fun (p:Nat×Operand)=>(p.1,a.eval p.2))).run P w= .ok (.slice (some ⟨w.heap.size,0,none⟩) n n) (w.alloc (.cells xs'.toArray elem0)):=by
     simp only [Instr.buildSlice,Sem.run_bind,run_underlying hd w,Result.andThen_ok,hs]
     rw [if_neg (by omega),if_neg b5]
     simp only [Sem.run_bind,hz,Result.andThen_ok,Sem.run_pure,hrow,h3,newRow,run_newObj,World.alloc_eq]
    simp only [execOp,ho,Sem.run_bind,hrun,Result.andThen_ok,Sem.run_pure,Oper.upon]
    exact hn _ _ ρ' _ _ e1 (.slc e2) e3 (fun hq=>by simp [ho,quiet] at hq) hk
 ·-- call
  rename_i c ho
  split at hk<;>try (cases hk;done)
  ·rename_i f hc
   split at hk<;>try (cases hk;done)
   rename_i g caps vs hf hvs
   have hfv:=h.ev hf
   cases hfe:a.eval f<;>rw [hfe] at hfv<;>cases hfv
   rename_i xs hxs
   have hargs:=(h.evs hvs).append hxs
   have:=hcall g _ _ K r hk ρ _ w hargs h.mr o a next Q fun v m' ρ' x w' h1 h2 h3 h4=>hn v m' ρ' x w' h1 h2 h3 (fun hq=>by simp [ho,quiet,hc] at hq) h4
   have e:(execOp a.eval o).run P w=(callFunc g ((c.args.toList.map a.eval)++xs).toArray).run P w:=by
    simp only [execOp,ho,resolve,hc,hfe,Deferred.ofValue,pure_bind,invoke]
    congr 2
    simp
   rw [e];exact this
  ·rename_i hc
   split at hk<;>try (cases hk;done)
   rename_i a0 vs hvs
   split at hk<;>try (cases hk;done)
   rename_i m hm
   have hargs:=h.evs hvs
   cases hcl:c.args.toList.map a.eval with
   | nil=>rw [hcl] at hargs;cases hargs
   | cons x xs=>
    rw [hcl] at hargs
    cases hargs with
    | cons hx ht=>
     cases hx
     have hr:=zEr (w:=w) (P:=P) vs xs a0 m hm ht
     have hmap:(c.args.map a.eval).toList= .int .i64 a0.val::xs:=by simpa using hcl
     have hrun:(Builtin.min_ c.argTypes o.type (c.args.map a.eval)).run P w= .ok (.int .i64 m.val) w:=by
      unfold Builtin.min_;rw [hmap];exact hr
     have:=key _ _ _ hrun (.i64 m) hk
     simpa only [execOp,ho,resolve,hc,pure_bind,invoke,builtin] using this
  ·rename_i hc
   split at hk<;>try (cases hk;done)
   rename_i a0 vs hvs
   split at hk<;>try (cases hk;done)
   rename_i m hm
   have hargs:=h.evs hvs
   cases hcl:c.args.toList.map a.eval with
   | nil=>rw [hcl] at hargs;cases hargs
   | cons x xs=>
    rw [hcl] at hargs
    cases hargs with
    | cons hx ht=>
     cases hx
     have hr:=zEt (w:=w) (P:=P) vs xs a0 m hm ht
     have hmap:(c.args.map a.eval).toList= .int .i64 a0.val::xs:=by simpa using hcl
     have hrun:(Builtin.max_ c.argTypes o.type (c.args.map a.eval)).run P w= .ok (.int .i64 m.val) w:=by
      unfold Builtin.max_;rw [hmap];exact hr
     have:=key _ _ _ hrun (.i64 m) hk
     simpa only [execOp,ho,resolve,hc,pure_bind,invoke,builtin] using this
  ·rename_i hc
   split at hk
   ·rename_i t b0 o0 l c0 hts hvs
    split at hk<;>try (cases hk;done)
    rename_i e he
    have hid:=zdC he
    split at hk<;>try (cases hk;done)
    rename_i et es hkd
    split at hk<;>try (cases hk;done)
    rename_i hin
    have hargs:=h.evs hvs
    cases hcl:c.args.toList.map a.eval with
    | nil=>rw [hcl] at hargs;cases hargs
    | cons x xs=>
     rw [hcl] at hargs
     cases hargs with
     | cons hx ht=>
      cases ht
      cases hx
      rename_i rr hrr
      have hkk:=e.hk
      rw [hid,hkd] at hkk
      unfold kdOf at hkk
      cases hd:P.underlying t with
      | none=>rw [hd] at hkk;simp at hkk
      | some d=>
       rw [hd] at hkk
       cases d<;>simp at hkk
       have h1:c.argTypes[0]?=some t:=by
        have:c.argTypes.toList[0]?=some t:=by rw [hts];rfl
        simpa using this
       have h2:(c.args.map a.eval)[0]?=some (.slice (some ⟨rr,o0,none⟩) l c0):=by
        have:(c.args.toList.map a.eval)[0]?=some (.slice (some ⟨rr,o0,none⟩) l c0):=by rw [hcl];rfl
        simpa using this
       have hrun:(Builtin.len_ c.argTypes o.type (c.args.map a.eval)).run P w= .ok (.int .i64 (l:Int)) w:=by
        simp only [Builtin.len_,h1,h2,Sem.run_bind,run_underlying hd w,Result.andThen_ok,Sem.run_pure,goInt]
       have:=key _ _ _ hrun (.i64 ⟨(l:Int),hin⟩) hk
       simpa only [execOp,ho,resolve,hc,pure_bind,invoke,builtin] using this
   ·rename_i t k0 hts hvs
    split at hk<;>try (cases hk;done)
    rename_i e he
    have hid:=zdC he
    split at hk<;>try (cases hk;done)
    rename_i et es hkd
    have hargs:=h.evs hvs
    cases hcl:c.args.toList.map a.eval with
    | nil=>rw [hcl] at hargs;cases hargs
    | cons x xs=>
     rw [hcl] at hargs
     cases hargs with
     | cons hx ht=>
      cases ht
      cases hx
      have hkk:=e.hk
      rw [hid,hkd] at hkk
      unfold kdOf at hkk
      cases hd:P.underlying t with
      | none=>rw [hd] at hkk;simp at hkk
      | some d=>
       rw [hd] at hkk
       cases d<;>simp at hkk
       have h1:c.argTypes[0]?=some t:=by
        have:c.argTypes.toList[0]?=some t:=by rw [hts];rfl
        simpa using this
       have h2:(c.args.map a.eval)[0]?=some (.slice (Amb.A k0) (Amb.len k0) (Amb.cap k0)):=by
        have:(c.args.toList.map a.eval)[0]?=some (.slice (Amb.A k0) (Amb.len k0) (Amb.cap k0)):=by rw [hcl];rfl
        simpa using this
       have hrun:(Builtin.len_ c.argTypes o.type (c.args.map a.eval)).run P w= .ok (.int .i64 ((Amb.len k0:Nat):Int)) w:=by
        simp only [Builtin.len_,h1,h2,Sem.run_bind,run_underlying hd w,Result.andThen_ok,Sem.run_pure,goInt]
       have:=key _ _ _ hrun (.i64 (lenA k0)) hk
       simpa only [execOp,ho,resolve,hc,pure_bind,invoke,builtin] using this
   ·cases hk
 ·cases hk
theorem zFp {T:List (TyE P)} {o:Oper} {t n:Nat} {ps:Array (Nat×Operand)} (ho:o.op= .buildSlice t n ps) {e:TyE P} {vs:List (Nat×V)} {et es:Nat} {ee:TyE P} {cs:List V} (he:tyf T t=some e) (hvs:s.evps ps.toList=some vs)
  (hkd:e.kd= .slice et es) (hee:tyf T et=some ee) (hb:(Nat.beq ee.size es&&Nat.beq ee.zero.length es&&Nat.ble (n*es) 1000 && !Nat.beq (n*es) 0)=true)
  (hcs:zzQ (fun i=>some (i*es,es)) ((List.range (n*es)).map fun i=>ee.zero.getD (i%es) .nils) vs=some cs) (h:Rel w0 ρ s a w):
  ∃xs' el,(execOp a.eval o).run P w= .ok (Next.value (.slice (some ⟨w.heap.size,0,none⟩) n n)) (w.alloc (.cells xs'.toArray el))/\VRs ρ cs xs':=by
 have hid:=zdC he
 have hide:=zdC hee
 simp only [Bool.and_eq_true,Bool.not_eq_true'] at hb
 obtain ⟨⟨⟨b1,b3⟩,b4⟩,b5⟩:=hb
 have b1:=Nat.eq_of_beq_eq_true b1
 have b3:=Nat.eq_of_beq_eq_true b3
 have b4:=Nat.le_of_ble_eq_true b4
 have b5:n*es≠0:=fun hh=>by rw [hh] at b5;cases b5
 have bes:0<es:=Nat.pos_of_ne_zero fun hh=>b5 (by rw [hh,Nat.mul_zero])
 obtain ⟨h1,h2⟩:=h.evps hvs
 obtain ⟨z,hz,hzc⟩:=ee.run_zero w
 have hkk:=e.hk
 rw [hid,hkd] at hkk
 unfold kdOf at hkk
 cases hd:P.underlying t with
 | none=>rw [hd] at hkk;simp at hkk
 | some d=>
  rw [hd] at hkk
  cases d<;>simp at hkk
  rename_i elem0
  obtain ⟨rfl,hes⟩:=hkk
  have hp:=ee.hp
  have hzs:z.cells.size=es:=by have:=congrArg List.length hzc;simpa [b3] using this
  have hat:∀i,i<es->VR ρ (ee.zero.getD i .nils) (z.cells[i]!):=by
   intro i hi
   have hi':i<ee.zero.length:=by omega
   have e1:ee.zero.getD i .nils=ee.zero[i]:=by simp [List.getD,hi']
   have e2:z.cells[i]! = (ee.zero[i]).valD:=by
    have:z.cells.toList[i]?=some (ee.zero[i]).valD:=by rw [hzc];simp [hi']
    have h3:z.cells[i]?=some (ee.zero[i]).valD:=by simpa using this
    have hi2:i<z.cells.size:=by omega
    rw [getElem!_pos z.cells i hi2]
    simpa [hi2] using h3
   rw [e1,e2]
   exact VR.valD (List.all_eq_true.1 hp _ (List.getElem_mem hi'))
  have hz0r:VRs ρ ((List.range (n*es)).map fun i=>ee.zero.getD (i%es) .nils) ((List.range (n*es)).map fun i=>z.cells[i%z.cells.size]!):=by
   rw [hzs]
   induction List.range (n*es) with
   | nil=>exact .nil
   | cons i t ih=>exact .cons (hat _ (Nat.mod_lt _ bes)) ih
  obtain ⟨xs',h3,h4⟩:=zus (ρ:=ρ) vs _ cs _ (ps.toList.map (·.1)) _ hcs hz0r h2 h1
  have hzip:(ps.toList.map (·.1)).zip (ps.toList.map fun p=>a.eval p.2)=(ps.map fun (p:Nat×Operand)=>(p.1,a.eval p.2)).toList:=by
   rw [Array.toList_map]
   induction ps.toList with
   | nil=>rfl
   | cons p t ih=>simp [ih]
  rw [hzip] at h3
  have hs:=ee.run_size w
  rw [hide,b1] at hs
  rw [hide] at hz
  have hrow:(Array.range (n*es)).map (fun i=>z.cells[i%z.cells.size]!)=((List.range (n*es)).map fun i=>z.cells[i%z.cells.size]!).toArray:=by
   apply Array.ext
   ·simp
   ·intro i h1 h2;simp
  have hrun:(Instr.buildSlice t n (ps.map fun (p:Nat×Operand)=>(p.1,a.eval p.2))).run P w= .ok (.slice (some ⟨w.heap.size,0,none⟩) n n) (w.alloc (.cells xs'.toArray elem0)):=by
   simp only [Instr.buildSlice,Sem.run_bind,run_underlying hd w,Result.andThen_ok,hs]
   rw [if_neg (by omega),if_neg b5]
   simp only [Sem.run_bind,hz,Result.andThen_ok,Sem.run_pure,hrow,h3,newRow,run_newObj,World.alloc_eq]
  exact ⟨xs',elem0,by simp only [execOp,ho,Sem.run_bind,hrun,Result.andThen_ok,Sem.run_pure],h4⟩
theorem zBm {T:List (TyE P)} {o:Oper} {g0:Bool} {v:V} (hk:opg T s o=some (g0,v)) (hg0:g0=true) (h:Rel w0 ρ s a w):∃x,(execOp a.eval o).run P w= .ok (Next.value x) w/\VR ρ v x/\quiet o.op=true:=by
 have key:∀(S:Sem Value) (x:Value),S.run P w= .ok x w->(do let y <- S;pure (Next.value y):Sem Next).run P w= .ok (Next.value x) w:=fun S x h1=>by
  simp only [Sem.run_bind,h1,Result.andThen_ok,Sem.run_pure]
 unfold opg at hk
 split at hk
 ·-- indexAddr
  rename_i t x i ho
  split at hk<;>try (cases hk;done)
  rename_i e v' j he hx hi
  have hid:=zdC he
  have hxv:=h.ev hx
  have hiv:=h.ev hi
  cases hie:a.eval i<;>rw [hie] at hiv<;>cases hiv
  have hkk:=e.hk
  rw [hid] at hkk
  split at hk<;>try (cases hk;done)
  ·rename_i et es g off l c hkd
   ·simp only [Option.some.injEq,Prod.mk.injEq] at hk
    obtain ⟨hb,rfl⟩:=hk
    rw [<- hb] at hg0
    have hb:=hg0
    simp only [Bool.and_eq_true,decide_eq_true_eq,Bool.not_eq_true'] at hb
    obtain ⟨⟨hb1,hb2⟩,hb3⟩:=hb
    cases hxe:a.eval x<;>rw [hxe] at hxv<;>cases hxv
    rw [hkd] at hkk
    unfold kdOf at hkk
    cases hd:P.underlying t with
    | none=>rw [hd] at hkk;simp at hkk
    | some d=>
     rw [hd] at hkk
     cases d<;>simp at hkk
     rename_i elem0
     obtain ⟨rfl,rfl⟩:=hkk
     have hs:=ziF (P:=P) (t:=elem0) rfl (fun hh=>by rw [hh] at hb3;cases hb3) w
     have hrun:(Instr.indexAt t (.slice (some ⟨g,off,none⟩) l c) (.int .i64 j.val)).run P w= .ok (.pointer (some ⟨g,off+j.val.toNat*P.cellsOf elem0,none⟩)) w:=by
      simp [Instr.indexAt,asIntOf,run_underlying hd,hb1,hb2,hs,addr_add]
     exact ⟨_,by simpa only [execOp,ho,hxe,hie] using key _ _ hrun,.glob _ _,by simp [ho,quiet]⟩
  ·rename_i n et es g off hkd
   ·simp only [Option.some.injEq,Prod.mk.injEq] at hk
    obtain ⟨hb,rfl⟩:=hk
    rw [<- hb] at hg0
    have hb:=hg0
    simp only [Bool.and_eq_true,decide_eq_true_eq,Bool.not_eq_true'] at hb
    obtain ⟨⟨hb1,hb2⟩,hb3⟩:=hb
    cases hxe:a.eval x<;>rw [hxe] at hxv<;>cases hxv
    rw [hkd] at hkk
    unfold kdOf at hkk
    cases hd:P.underlying t with
    | none=>rw [hd] at hkk;simp at hkk
    | some d=>
     rw [hd] at hkk
     cases d<;>simp at hkk
     rename_i len0 elem0
     obtain ⟨rfl,rfl,rfl⟩:=hkk
     have hs:=ziF (P:=P) (t:=elem0) rfl (fun hh=>by rw [hh] at hb3;cases hb3) w
     have hrun:(Instr.indexAt t (.pointer (some ⟨g,off,none⟩)) (.int .i64 j.val)).run P w= .ok (.pointer (some ⟨g,off+j.val.toNat*P.cellsOf elem0,none⟩)) w:=by
      simp [Instr.indexAt,asIntOf,run_underlying hd,Instr.sureAddr,hb1,hb2,hs,addr_add]
     exact ⟨_,by simpa only [execOp,ho,hxe,hie] using key _ _ hrun,.glob _ _,by simp [ho,quiet]⟩
  ·rename_i et es k hkd
   simp only [Option.some.injEq,Prod.mk.injEq] at hk
   obtain ⟨hb,rfl⟩:=hk
   rw [<- hb] at hg0
   have hb:=hg0
   simp only [Bool.and_eq_true,decide_eq_true_eq] at hb
   obtain ⟨⟨hb1,hb2⟩,hb3⟩:=hb
   cases hxe:a.eval x<;>rw [hxe] at hxv<;>cases hxv
   rw [hkd] at hkk
   unfold kdOf at hkk
   cases hd:P.underlying t with
   | none=>rw [hd] at hkk;simp at hkk
   | some d=>
    rw [hd] at hkk
    cases d<;>simp at hkk
    rename_i elem0
    obtain ⟨rfl,hes⟩:=hkk
    have he2:P.cellsOf elem0=2:=by rw [hes];exact Nat.eq_of_beq_eq_true hb3
    have hs:=ziF (P:=P) (t:=elem0) he2 (by decide) w
    obtain ⟨r,off,hA,_⟩:=Amb.hel k j.val hb1 hb2
    replace hb2:j.val<(Amb.len k:Int):=by have:=Amb.hpl k;omega
    have hrun:(Instr.indexAt t (.slice (Amb.A k) (Amb.len k) (Amb.cap k)) (.int .i64 j.val)).run P w= .ok (.pointer (some ⟨r,off+j.val.toNat*2,none⟩)) w:=by
     rw [hA]
     simp [Instr.indexAt,asIntOf,run_underlying hd,hb1,hb2,hs,addr_add]
    exact ⟨_,by simpa only [execOp,ho,hxe,hie] using key _ _ hrun,.argp hA,by simp [ho,quiet]⟩
 ·-- load
  rename_i t x ho
  split at hk<;>try (cases hk;done)
  ·rename_i e g off he hx
   have hid:=zdC he
   have hxv:=h.ev hx
   cases hxe:a.eval x<;>rw [hxe] at hxv<;>cases hxv
   split at hk<;>try (cases hk;done)
   rename_i cs hagg hg
   split at hk<;>try (cases hk;done)
   rename_i v' hk'
   simp only [Option.some.injEq,Prod.mk.injEq] at hk
   obtain ⟨_,rfl⟩:=hk
   replace hk:=hk'
   obtain ⟨xs,ty,h1,h2⟩:=h.mr.invw.1 g cs hg
   rw [zpB] at hk
   obtain ⟨y,hy,hr⟩:=h2.get off hk
   have h3:=e.run_agg hagg w
   rw [hid] at h3
   have hc:w.cell? ⟨g,off,none⟩=some y:=by
    rw [cell_of_row w g off _ ty _ h1]
    simpa using hy
   have hrun:(Instr.loadAt t (.pointer (some ⟨g,off,none⟩))).run P w= .ok y w:=by
    simp [Instr.loadAt,Instr.sureAddr,loadVar,h3,hc]
   exact ⟨_,by simpa only [execOp,ho,hxe] using key _ _ hrun,hr.mono (fun _ _ h=>by cases h),by simp [ho,quiet]⟩
  ·rename_i e k j he hx
   have hid:=zdC he
   have hxv:=h.ev hx
   cases hxe:a.eval x<;>rw [hxe] at hxv<;>cases hxv
   rename_i r off hA
   split at hk<;>try (cases hk;done)
   rename_i hagg
   simp only [Option.some.injEq,Prod.mk.injEq] at hk
   obtain ⟨hb,rfl⟩:=hk
   rw [<- hb] at hg0
   have hb:=hg0
   simp only [Bool.and_eq_true,decide_eq_true_eq] at hb
   obtain ⟨⟨hb1,hb2⟩,hb3⟩:=hb
   obtain ⟨r',off',hA',hc⟩:=Amb.hel k j.val hb1 hb2
   rw [hA] at hA'
   cases hA'
   obtain ⟨c1,c2⟩:=hc w (h.mr.am w h.mr.bel).1
   have h1:=e.run_agg hagg w
   have h2:=e.run_size w
   rw [hid] at h1 h2
   rw [Nat.eq_of_beq_eq_true hb3] at h2
   have hl:=run_loadCells_list (P:=P) w ⟨r,off+j.val.toNat*2,none⟩ [.int .i64 (Amb.el k j.val).1.val,.int .i64 (Amb.el k j.val).2.val] (fun q v hq=>by
    rw [addr_add]
    match q,hq with
    | 0,hq=>cases hq;exact c1
    | 1,hq=>cases hq;exact c2
    | q+2,hq=>cases hq)
   have hrun:(Instr.loadAt t (.pointer (some ⟨r,off+j.val.toNat*2,none⟩))).run P w= .ok (.agg #[.int .i64 (Amb.el k j.val).1.val,.int .i64 (Amb.el k j.val).2.val]) w:=by
    simp [Instr.loadAt,Instr.sureAddr,loadVar,h1,h2] at hl ⊢
    simp [hl]
   exact ⟨_,by simpa only [execOp,ho,hxe] using key _ _ hrun,.agg (.cons (.i64 _) (.cons (.i64 _) .nil)),by simp [ho,quiet]⟩
 ·-- slice
  rename_i t x ho
  split at hk<;>try (cases hk;done)
  rename_i e g off he hx
  have hid:=zdC he
  have hxv:=h.ev hx
  cases hxe:a.eval x<;>rw [hxe] at hxv<;>cases hxv
  split at hk<;>try (cases hk;done)
  rename_i n et es hkd
  ·simp only [Option.some.injEq,Prod.mk.injEq] at hk
   obtain ⟨hb,rfl⟩:=hk
   rw [<- hb] at hg0
   have hb:=hg0
   simp only [Bool.and_eq_true,Bool.not_eq_true'] at hb
   have hkk:=e.hk
   rw [hid,hkd] at hkk
   unfold kdOf at hkk
   cases hd:P.underlying t with
   | none=>rw [hd] at hkk;simp at hkk
   | some d=>
    rw [hd] at hkk
    cases d<;>simp at hkk
    rename_i len0 elem0
    obtain ⟨rfl,rfl,rfl⟩:=hkk
    have hs:=ziF (P:=P) (t:=elem0) rfl (fun hh=>by rw [hh] at hb;cases hb.1) w
    have hn:len0≠0:=fun hh=>by rw [hh] at hb;cases hb.2
    have hrun:(Instr.sliceAt t (.pointer (some ⟨g,off,none⟩)) none none none).run P w= .ok (.slice (some ⟨g,off,none⟩) len0 len0) w:=by
     simp [Instr.sliceAt,Instr.sureAddr,run_underlying hd,Instr.sliceBounds,hs,hn,addr_add]
    exact ⟨_,by simpa only [execOp,ho,hxe,Option.map_none] using key _ _ hrun,.gslc _ _ _ _,by simp [ho,quiet]⟩
 ·-- a text up to a bound
  rename_i t x hi ho
  split at hk<;>try (cases hk;done)
  rename_i e b j he hx hhi
  have hid:=zdC he
  have hxv:=h.ev hx
  have hlv:=h.ev hhi
  cases hxe:a.eval x<;>rw [hxe] at hxv<;>cases hxv
  cases hle:a.eval hi<;>rw [hle] at hlv<;>cases hlv
  split at hk<;>try (cases hk;done)
  rename_i hkd
  simp only [Option.some.injEq,Prod.mk.injEq] at hk
  obtain ⟨hb,rfl⟩:=hk
  rw [<- hb] at hg0
  have hb:=hg0
  simp only [Bool.and_eq_true,decide_eq_true_eq] at hb
  have hkk:=e.hk
  rw [hid,hkd] at hkk
  unfold kdOf at hkk
  cases hd:P.underlying t with
  | none=>rw [hd] at hkk;simp at hkk
  | some d=>
   rw [hd] at hkk
   cases d<;>simp at hkk
   have hsb:(Instr.sliceBound (.int .i64 j.val) b.size .sliceAlen).run P w= .ok j.val.toNat w:=by
    simp only [Instr.sliceBound,asIntOf,Sem.run_bind,Sem.run_pure,Result.andThen_ok,if_pos hb]
   have hrun:(Instr.sliceAt t (.string b) none (some (.int .i64 j.val)) none).run P w= .ok (.string (b.extract 0 j.val.toNat)) w:=by
    simp [Instr.sliceAt,Instr.slice,run_underlying hd,Instr.sliceBounds,hsb]
   exact ⟨_,by simpa only [execOp,ho,hxe,hle,Option.map_none,Option.map_some] using key _ _ hrun,.str _,by simp [ho,quiet]⟩
 ·-- slice behind a lower bound
  rename_i t x lo ho
  split at hk<;>try (cases hk;done)
  ·rename_i e b off l c j he hx hlo
   have hid:=zdC he
   have hxv:=h.ev hx
   have hlv:=h.ev hlo
   cases hxe:a.eval x<;>rw [hxe] at hxv<;>cases hxv
   cases hle:a.eval lo<;>rw [hle] at hlv<;>cases hlv
   rename_i r hr
   split at hk<;>try (cases hk;done)
   rename_i et es hkd
   ·simp only [Option.some.injEq,Prod.mk.injEq] at hk
    obtain ⟨hb,rfl⟩:=hk
    rw [<- hb] at hg0
    have hb:=hg0
    simp only [Bool.and_eq_true,Bool.not_eq_true',decide_eq_true_eq] at hb
    have h1:j.val.toNat<l:=Nat.le_of_ble_eq_true hb.1.2.1
    have h2:l<=c:=Nat.le_of_ble_eq_true hb.1.2.2
    have hkk:=e.hk
    rw [hid,hkd] at hkk
    unfold kdOf at hkk
    cases hd:P.underlying t with
    | none=>rw [hd] at hkk;simp at hkk
    | some d=>
     rw [hd] at hkk
     cases d<;>simp at hkk
     rename_i elem0
     obtain ⟨rfl,rfl⟩:=hkk
     have hs:=ziF (P:=P) (t:=elem0) rfl (fun hh=>by rw [hh] at hb;cases hb.2) w
     have hj:((j.val.toNat:Nat):Int)=j.val:=by have:=hb.1.1;omega
     have hne:c≠j.val.toNat:=by omega
     have hsb:(Instr.sliceBound (.int .i64 j.val) l .sliceB).run P w= .ok j.val.toNat w:=by
      have hc:0<=j.val/\j.val<=((l:Nat):Int):=⟨hb.1.1,by omega⟩
      simp only [Instr.sliceBound,asIntOf,Sem.run_bind,Sem.run_pure,Result.andThen_ok,if_pos hc]
     have hrun:(Instr.sliceAt t (.slice (some ⟨r,off,none⟩) l c) (some (.int .i64 j.val)) none none).run P w= .ok (.slice (some ⟨r,off+j.val.toNat*P.cellsOf elem0,none⟩) (l-j.val.toNat) (c-j.val.toNat)) w:=by
      simp [Instr.sliceAt,Instr.slice,run_underlying hd,Instr.sliceBounds,hsb,hs,hne,addr_add]
     exact ⟨_,by simpa only [execOp,ho,hxe,hle,Option.map_none,Option.map_some] using key _ _ hrun,.slc hr,by simp [ho,quiet]⟩
  ·rename_i e b j he hx hlo
   have hid:=zdC he
   have hxv:=h.ev hx
   have hlv:=h.ev hlo
   cases hxe:a.eval x<;>rw [hxe] at hxv<;>cases hxv
   cases hle:a.eval lo<;>rw [hle] at hlv<;>cases hlv
   split at hk<;>try (cases hk;done)
   rename_i hkd
   simp only [Option.some.injEq,Prod.mk.injEq] at hk
   obtain ⟨hb,rfl⟩:=hk
   rw [<- hb] at hg0
   have hb:=hg0
   simp only [Bool.and_eq_true,decide_eq_true_eq] at hb
   have hkk:=e.hk
   rw [hid,hkd] at hkk
   unfold kdOf at hkk
   cases hd:P.underlying t with
   | none=>rw [hd] at hkk;simp at hkk
   | some d=>
    rw [hd] at hkk
    cases d<;>simp at hkk
    have hsb:(Instr.sliceBound (.int .i64 j.val) b.size .sliceB).run P w= .ok j.val.toNat w:=by
     simp only [Instr.sliceBound,asIntOf,Sem.run_bind,Sem.run_pure,Result.andThen_ok,if_pos hb]
    have hrun:(Instr.sliceAt t (.string b) (some (.int .i64 j.val)) none none).run P w= .ok (.string (b.extract j.val.toNat b.size)) w:=by
     simp [Instr.sliceAt,Instr.slice,run_underlying hd,Instr.sliceBounds,hsb]
    exact ⟨_,by simpa only [execOp,ho,hxe,hle,Option.map_none,Option.map_some] using key _ _ hrun,.str _,by simp [ho,quiet]⟩
 ·-- texts compared
  rename_i op xt x y yt ho
  split at hk<;>try (cases hk;done)
  ·rename_i b c hx hy
   cases hk
   have hxv:=h.ev hx
   have hyv:=h.ev hy
   cases hxe:a.eval x<;>rw [hxe] at hxv<;>cases hxv
   cases hye:a.eval y<;>rw [hye] at hyv<;>cases hyv
   have hg:(eqGuard .eql xt x y (.string b) (.string c)).run P w= .ok () w:=by simp only [eqGuard];split<;>rfl
   have hrun:(do eqGuard .eql xt x y (.string b) (.string c);Go.binOp .eql xt (.string b) (.string c)).run P w= .ok (.bool (zH4 b c)) w:=by
    simp only [Sem.run_bind,hg,Result.andThen_ok,binOp_string_eql,Sem.run_pure,zEK]
   exact ⟨_,by simpa only [execOp,ho,hxe,hye] using key _ _ hrun,.bool _,by simp [ho,quiet]⟩
  ·rename_i b c hx hy
   cases hk
   have hxv:=h.ev hx
   have hyv:=h.ev hy
   cases hxe:a.eval x<;>rw [hxe] at hxv<;>cases hxv
   cases hye:a.eval y<;>rw [hye] at hyv<;>cases hyv
   have hg:(eqGuard .neq xt x y (.string b) (.string c)).run P w= .ok () w:=by simp only [eqGuard];split<;>rfl
   have hrun:(do eqGuard .neq xt x y (.string b) (.string c);Go.binOp .neq xt (.string b) (.string c)).run P w= .ok (.bool (!zH4 b c)) w:=by
    simp only [Sem.run_bind,hg,Result.andThen_ok,binOp_string_neq,Sem.run_pure,zEK]
   exact ⟨_,by simpa only [execOp,ho,hxe,hye] using key _ _ hrun,.bool _,by simp [ho,quiet]⟩
  ·rename_i b c hx hy
   simp only [Option.some.injEq,Prod.mk.injEq] at hk
   obtain ⟨hb,rfl⟩:=hk
   rw [<- hb] at hg0
   have hle:=of_decide_eq_true hg0
   have hxv:=h.ev hx
   have hyv:=h.ev hy
   cases hxe:a.eval x<;>rw [hxe] at hxv<;>cases hxv
   cases hye:a.eval y<;>rw [hye] at hyv<;>cases hyv
   have hg:(eqGuard .add xt x y (.string b) (.string c)).run P w= .ok () w:=by simp only [eqGuard];rfl
   have hrun:(do eqGuard .add xt x y (.string b) (.string c);Go.binOp .add xt (.string b) (.string c)).run P w= .ok (.string (b++c)) w:=by
    simp only [Sem.run_bind,hg,Result.andThen_ok,binOp_string_add,run_string_add_sum w b c hle]
   exact ⟨_,by simpa only [execOp,ho,hxe,hye] using key _ _ hrun,.str _,by simp [ho,quiet]⟩
 ·-- len
  rename_i c ho
  split at hk<;>try (cases hk;done)
  rename_i hc
  split at hk<;>try (cases hk;done)
  ·rename_i t g off l c0 hts hvs
   split at hk<;>try (cases hk;done)
   rename_i e he
   have hid:=zdC he
   split at hk<;>try (cases hk;done)
   rename_i et es hkd
   ·simp only [Option.some.injEq,Prod.mk.injEq] at hk
    obtain ⟨hb,rfl⟩:=hk
    rw [<- hb] at hg0
    have hin:inB .i64 (l:Int)=true:=hg0
    have hw:(Rng.w .i64 (l:Int)).val=(l:Int):=ze9 hin
    have hargs:=h.evs hvs
    cases hcl:c.args.toList.map a.eval with
    | nil=>rw [hcl] at hargs;cases hargs
    | cons x xs=>
     rw [hcl] at hargs
     cases hargs with
     | cons hx ht=>
      cases ht
      cases hx
      have hkk:=e.hk
      rw [hid,hkd] at hkk
      unfold kdOf at hkk
      cases hd:P.underlying t with
      | none=>rw [hd] at hkk;simp at hkk
      | some d=>
       rw [hd] at hkk
       cases d<;>simp at hkk
       have h1:c.argTypes[0]?=some t:=by
        have:c.argTypes.toList[0]?=some t:=by rw [hts];rfl
        simpa using this
       have h2:(c.args.map a.eval)[0]?=some (.slice (some ⟨g,off,none⟩) l c0):=by
        have:(c.args.toList.map a.eval)[0]?=some (.slice (some ⟨g,off,none⟩) l c0):=by rw [hcl];rfl
        simpa using this
       have hrun:(Builtin.len_ c.argTypes o.type (c.args.map a.eval)).run P w= .ok (.int .i64 (l:Int)) w:=by
        simp only [Builtin.len_,h1,h2,Sem.run_bind,run_underlying hd w,Result.andThen_ok,Sem.run_pure,goInt]
       refine ⟨_,by simpa only [execOp,ho,resolve,hc,pure_bind,invoke,builtin] using key _ _ hrun,?_,by simp [ho,quiet,hc]⟩
       have:=VR.i64 (ρ:=ρ) (Rng.w .i64 (l:Int))
       rw [hw] at this
       exact this
  ·rename_i t g off l c0 hts hvs
   split at hk<;>try (cases hk;done)
   rename_i e he
   have hid:=zdC he
   split at hk<;>try (cases hk;done)
   rename_i et es hkd
   ·simp only [Option.some.injEq,Prod.mk.injEq] at hk
    obtain ⟨hb,rfl⟩:=hk
    rw [<- hb] at hg0
    have hin:inB .i64 (l:Int)=true:=hg0
    have hw:(Rng.w .i64 (l:Int)).val=(l:Int):=ze9 hin
    have hargs:=h.evs hvs
    cases hcl:c.args.toList.map a.eval with
    | nil=>rw [hcl] at hargs;cases hargs
    | cons x xs=>
     rw [hcl] at hargs
     cases hargs with
     | cons hx ht=>
      cases ht
      cases hx
      rename_i r hr
      have hkk:=e.hk
      rw [hid,hkd] at hkk
      unfold kdOf at hkk
      cases hd:P.underlying t with
      | none=>rw [hd] at hkk;simp at hkk
      | some d=>
       rw [hd] at hkk
       cases d<;>simp at hkk
       have h1:c.argTypes[0]?=some t:=by
        have:c.argTypes.toList[0]?=some t:=by rw [hts];rfl
        simpa using this
       have h2:(c.args.map a.eval)[0]?=some (.slice (some ⟨r,off,none⟩) l c0):=by
        have:(c.args.toList.map a.eval)[0]?=some (.slice (some ⟨r,off,none⟩) l c0):=by rw [hcl];rfl
        simpa using this
       have hrun:(Builtin.len_ c.argTypes o.type (c.args.map a.eval)).run P w= .ok (.int .i64 (l:Int)) w:=by
        simp only [Builtin.len_,h1,h2,Sem.run_bind,run_underlying hd w,Result.andThen_ok,Sem.run_pure,goInt]
       refine ⟨_,by simpa only [execOp,ho,resolve,hc,pure_bind,invoke,builtin] using key _ _ hrun,?_,by simp [ho,quiet,hc]⟩
       have:=VR.i64 (ρ:=ρ) (Rng.w .i64 (l:Int))
       rw [hw] at this
       exact this
  ·rename_i t b hts hvs
   split at hk<;>try (cases hk;done)
   rename_i e he
   have hid:=zdC he
   split at hk<;>try (cases hk;done)
   rename_i hkd
   ·simp only [Option.some.injEq,Prod.mk.injEq] at hk
    obtain ⟨hb,rfl⟩:=hk
    rw [<- hb] at hg0
    have hin:inB .i64 (b.size:Int)=true:=hg0
    have hw:(Rng.w .i64 (b.size:Int)).val=(b.size:Int):=ze9 hin
    have hargs:=h.evs hvs
    cases hcl:c.args.toList.map a.eval with
    | nil=>rw [hcl] at hargs;cases hargs
    | cons x xs=>
     rw [hcl] at hargs
     cases hargs with
     | cons hx ht=>
      cases ht
      cases hx
      have hkk:=e.hk
      rw [hid,hkd] at hkk
      unfold kdOf at hkk
      cases hd:P.underlying t with
      | none=>rw [hd] at hkk;simp at hkk
      | some d=>
       rw [hd] at hkk
       cases d<;>simp at hkk
       have h1:c.argTypes[0]?=some t:=by
        have:c.argTypes.toList[0]?=some t:=by rw [hts];rfl
        simpa using this
       have h2:(c.args.map a.eval)[0]?=some (.string b):=by
        have:(c.args.toList.map a.eval)[0]?=some (.string b):=by rw [hcl];rfl
        simpa using this
       have hrun:(Builtin.len_ c.argTypes o.type (c.args.map a.eval)).run P w= .ok (.int .i64 (b.size:Int)) w:=by
        simp only [Builtin.len_,h1,h2,Sem.run_bind,run_underlying hd w,Result.andThen_ok,Sem.run_pure,goInt]
       refine ⟨_,by simpa only [execOp,ho,resolve,hc,pure_bind,invoke,builtin] using key _ _ hrun,?_,by simp [ho,quiet,hc]⟩
       have:=VR.i64 (ρ:=ρ) (Rng.w .i64 (b.size:Int))
       rw [hw] at this
       exact this
 ·cases hk
theorem zFF {T:List (TyE P)} {call:zmX A} (hcall:zqJ P w0 call) {o:Oper} {K:V->Mem->Option A} {r:A} (hk:opk2 T call s o K=some r) (h:Rel w0 ρ s a w)
  {next:Act->World->Prop} {Q:Exit->Act->World->Prop}
  (hn:∀v m' ρ' x w',Ext ρ ρ'->VR ρ' v x->MRel w0 ρ' m' w'->(quiet o.op=true->ρ'=ρ/\w'=w)->K v m'=some r->next (a.put o.dst x) w'):
  o.upon P a next Q ((execOp a.eval o).run P w):=by
 unfold opk2 at hk
 split at hk
 ·rename_i g v hv
  cases hg:g with
  | false=>rw [hg] at hk;cases hk
  | true=>
  rw [hg] at hk
  obtain ⟨x,h1,h2,_⟩:=zBm (P:=P) hv hg h
  rw [h1]
  simp only [Oper.upon]
  exact hn v s.mm ρ x w (Ext.refl _) h2 h.mr (fun _=>⟨rfl,rfl⟩) hk
 ·exact zpA hcall hk h hn
end
end Go.Proofs.YtaoakfodkoifoaaGreat.Ev
/-
 A small evaluator for the program's code: regions,code,loops,calls,and their soundness.
-/
namespace Go.Proofs.YtaoakfodkoifoaaGreat.Ev
open Go Go.RowKit
variable [Amb]
inductive X where
 | norm|exit (id:Nat)|ret
def X.out:X->Exit
 | .norm=> .normal
 | .exit id=> .exit id
 | .ret=> .ret
def gdst (ops:List Oper) (j:Nat):Option Nat:=
 match nth ops j with
 | some o=>o.dst
 | none=>none
section
variable {P:Program} {A:Type}
def opsk (T:List (TyE P)) (call:zmX A) (all:List Oper):List Oper->St->(St->Option A)->Option A
 | [],s,K=>K s
 | o::rest,s,K=>
  let E:St->Option A:=fun s=>bif s.fits o.dst then opk2 T call s o (fun v m=>opsk T call all rest (s.put o.dst v m) K) else none
  let S:St->Option A:=fun s=>bif s.fits o.dst then opsk T call all rest (s.put o.dst (.tup []) s.mm) K else none
  match o.guard with
  | none=>E s
  | some (j,want)=>match gdst all j with
   | some d=>match lk s.tm d with
    | some (.bool b)=>bif b then (bif want then E ⟨(d,.bool true)::s.tm,s.n,s.mm⟩ else S ⟨(d,.bool true)::s.tm,s.n,s.mm⟩)
      else (bif want then S ⟨(d,.bool false)::s.tm,s.n,s.mm⟩ else E ⟨(d,.bool false)::s.tm,s.n,s.mm⟩)
    | some (.tup [])=>S s
    | _=>none
   | none=>none
def zHr (ev:St->(X->St->Option A)->Option A):Nat->St->(X->St->Option A)->Option A
 | 0,_,_=>none
 | n+1,s,K=>ev s fun x s'=>match x with
  | .norm=>zHr ev n s' K
  | x=>K x s'
def key:Code->Nat
 | .region id _ _=>id
 | .seq a _=>key a
 | .block _ a=>key a
 | .loop a=>key a
 | _=>0
def zeV:Code->List Code
 | .seq a b=>zeV a++zeV b
 | .cond _ a b=>zeV a++zeV b
 | .block _ a=>zeV a
 | .loop a=>a::zeV a
 | _=> []
abbrev LpF:=∀A:Type,St->(X->St->Option A)->Option A
abbrev LT:=Nat->Option LpF
def St.know (s:St) (c:Operand) (b:Bool):St:=
 match c with
 | .tmp d=>⟨(d,.bool b)::s.tm,s.n,s.mm⟩
 | _=>s
def evC (T:List (TyE P)) (call:zmX A) (zkm:List Oper->St->(St->Option A)->Option A) (lt:LT) (N:Nat):Code->St->(X->St->Option A)->Option A
 | .skip,s,K=>K .norm s
 | .ret,s,K=>K .ret s
 | .exit id,s,K=>K (.exit id) s
 | .seq a b,s,K=>evC T call zkm lt N a s fun x s'=>match x with
  | .norm=>evC T call zkm lt N b s' K
  | x=>K x s'
 | .cond c a b,s,K=>match s.ev c with
  | some (.bool t)=>bif t then evC T call zkm lt N a (s.know c true) K else evC T call zkm lt N b (s.know c false) K
  | _=>none
 | .block id c,s,K=>evC T call zkm lt N c s fun x s'=>match x with
  | .exit j=>bif Nat.beq j id then K .norm s' else K (.exit j) s'
  | x=>K x s'
 | .loop c,s,K=>match lt (key c) with
  | some f=>f A s K
  | none=>zHr (evC T call zkm lt N c) N s K
 | .region _ ops draw,s,K=>bif draw then zkm ops.toList s (K .norm) else opsk T call ops.toList ops.toList s (K .norm)
 | _,_,_=>none
variable {w0:World}
def zKu (P:Program) (w0:World) (ρ:Nat->Option Nat) (K:X->St->Option A) (r:A) (Q:Exit->Act->World->Prop):Prop:=
 ∀x s' ρ' a' w',Ext ρ ρ'->Rel w0 ρ' s' a' w'->K x s'=some r->Q x.out a' w'
def zyp (P:Program) (w0:World) (zkm:List Oper->St->(St->Option A)->Option A):Prop:=
 ∀(id:Nat) (ops:Array Oper) (s:St) (K:St->Option A) (r:A),zkm ops.toList s K=some r->
  ∀(ρ:Nat->Option Nat) (a:Act) (w:World) (Q:Exit->Act->World->Prop),Rel w0 ρ s a w->
   (∀s' ρ' a' w',Ext ρ ρ'->Rel w0 ρ' s' a' w'->K s'=some r->Q .normal a' w')->(Code.region id ops true).wp P Q a w
def zkp (P:Program) (c:Code) (f:LpF):Prop:=
 ∀(A:Type) (w0:World) (s:St) (K:X->St->Option A) (r:A),f A s K=some r->
  ∀(ρ:Nat->Option Nat) (a:Act) (w:World) (Q:Exit->Act->World->Prop),Rel w0 ρ s a w->zKu P w0 ρ K r Q->(Code.loop c).wp P Q a w
theorem Rel.set {ρ:Nat->Option Nat} {s:St} {a:Act} {w:World} (h:Rel w0 ρ s a w) {d:Nat} {v u:V} (hd:lk s.tm d=some v) (hu:∀x,VR ρ v x->VR ρ u x):
  Rel w0 ρ ⟨(d,u)::s.tm,s.n,s.mm⟩ a w:=by
 refine ⟨fun t z hz=>?_,h.sz,h.df,h.mr⟩
 simp only [zbz] at hz
 by_cases hdt:d=t
 ·subst hdt
  simp at hz;subst hz
  obtain ⟨x,hx,hr⟩:=h.tm d v hd
  exact ⟨x,hx,hu x hr⟩
 ·rw [if_neg hdt] at hz;exact h.tm t z hz
theorem Rel.know {ρ:Nat->Option Nat} {s:St} {a:Act} {w:World} (h:Rel w0 ρ s a w) {c:Operand} {b:Bool} (hc:s.ev c=some (.bool b)):Rel w0 ρ (s.know c b) a w:=by
 unfold St.know
 split
 ·rename_i d
  exact h.set (v:= .bool b) (u:= .bool b) hc (fun x hx=>hx)
 ·exact h
theorem zsM {T:List (TyE P)} {call:zmX A} (hcall:zqJ P w0 call) {ops:Array Oper} {Q:Exit->Act->World->Prop} {r:A}:
  ∀(l:List Oper) (s:St) (K:St->Option A),opsk T call ops.toList l s K=some r->
   ∀(ρ:Nat->Option Nat) (a:Act) (w:World),Rel w0 ρ s a w->
    (∀s' ρ' a' w',Ext ρ ρ'->Rel w0 ρ' s' a' w'->K s'=some r->Q .normal a' w')->wpList P ops Q l a w
 | [],s,K,h,ρ,a,w,hr,hq=>hq s ρ a w (Ext.refl _) hr h
 | o::rest,s,K,h,ρ,a,w,hr,hq=>by
  have exec:∀s,Rel w0 ρ s a w->(bif s.fits o.dst then opk2 T call s o (fun v m=>opsk T call ops.toList rest (s.put o.dst v m) K) else none)=some r->
    o.wp P a w (wpList P ops Q rest) Q:=by
   intro s hr h
   cases hf:s.fits o.dst with
   | false=>simp [hf] at h
   | true=>
    simp only [hf,cond_true] at h
    refine zFF hcall h hr fun v m' ρ' x w' e hv hm _ hk=>?_
    exact zsM hcall rest _ K hk ρ' _ w' (hr.put e hv hf hm) fun s' ρ'' a' w'' e' h1 h2=>hq s' ρ'' a' w'' (e.trans e') h1 h2
  have skip:∀s,Rel w0 ρ s a w->(bif s.fits o.dst then opsk T call ops.toList rest (s.put o.dst (.tup []) s.mm) K else none)=some r->
    wpList P ops Q rest (a.put o.dst undef) w:=by
   intro s hr h
   cases hf:s.fits o.dst with
   | false=>simp [hf] at h
   | true=>
    simp only [hf,cond_true] at h
    exact zsM hcall rest _ K h ρ _ w (hr.put (Ext.refl _) (.tup (xs:= []) .nil) hf hr.mr) hq
  simp only [wpList]
  simp only [opsk] at h
  split at h
  ·rename_i hg
   have hw:Region.wanted o (yielded ops a.tmps)=true:=by simp [Region.wanted,hg]
   rw [if_pos hw]
   exact .inl (exec s hr h)
  ·rename_i j want hg
   split at h<;>try (cases h;done)
   rename_i d hd
   have hd':(ops[j]?).bind (·.dst)=some d:=by
    unfold gdst at hd
    rw [zpB] at hd
    cases ho:ops.toList[j]? with
    | none=>simp [ho] at hd
    | some oj=>simp [ho] at hd;simp at ho;simp [ho,hd]
   have hwant:∀x,a.tmps[d]?=some x->Region.wanted o (yielded ops a.tmps)=((match x with | .bool b=>some b|_=>none)==some want):=by
    intro x hx
    simp only [Region.wanted,hg,yielded,hd',Option.bind_some,hx]
    cases x<;>rfl
   split at h<;>try (cases h;done)
   ·rename_i b hb
    obtain ⟨x,hx,hvx⟩:=hr.tm d _ hb
    cases hvx
    have hw:=hwant _ hx
    cases b with
    | true=>
     simp only [cond_true] at h
     have hr':=hr.set (u:= .bool true) hb (fun x hx=>hx)
     cases want with
     | true=>
      simp only [cond_true] at h
      rw [if_pos (by rw [hw];rfl)]
      exact .inl (exec _ hr' h)
     | false=>
      simp only [cond_false] at h
      rw [if_neg (by rw [hw];decide)]
      exact skip _ hr' h
    | false=>
     simp only [cond_false] at h
     have hr':=hr.set (u:= .bool false) hb (fun x hx=>hx)
     cases want with
     | true=>
      simp only [cond_true] at h
      rw [if_neg (by rw [hw];decide)]
      exact skip _ hr' h
     | false=>
      simp only [cond_false] at h
      rw [if_pos (by rw [hw];rfl)]
      exact .inl (exec _ hr' h)
   ·rename_i hb
    obtain ⟨x,hx,hvx⟩:=hr.tm d _ hb
    cases hvx
    have hw:=hwant _ hx
    rw [if_neg (by rw [hw];simp)]
    exact skip _ hr h
theorem zvN {c:Code} {ev:St->(X->St->Option A)->Option A} {r:A} {Q:Exit->Act->World->Prop}
  (hev:∀(s:St) (K:X->St->Option A),ev s K=some r->∀(ρ:Nat->Option Nat) (a:Act) (w:World) (Q:Exit->Act->World->Prop),Rel w0 ρ s a w->zKu P w0 ρ K r Q->c.wp P Q a w):
  ∀(n:Nat) (s:St) (K:X->St->Option A),zHr ev n s K=some r->
   ∀(ρ:Nat->Option Nat) (a:Act) (w:World),Rel w0 ρ s a w->zKu P w0 ρ K r Q->Code.rounds P c Q n a w
 | 0,s,K,h,ρ,a,w,hr,hq=>by simp [zHr] at h
 | n+1,s,K,h,ρ,a,w,hr,hq=>by
  simp only [zHr] at h
  rw [rounds_succ]
  refine hev s _ h ρ a w _ hr fun x s' ρ' a' w' e hr' hk=>?_
  cases x with
  | norm=>exact zvN hev n s' K hk ρ' a' w' hr' fun x s'' ρ'' a'' w'' e' h1 h2=>hq x s'' ρ'' a'' w'' (e.trans e') h1 h2
  | exit id=>exact hq (.exit id) s' ρ' a' w' e hr' hk
  | ret=>exact hq .ret s' ρ' a' w' e hr' hk
theorem zlo {T:List (TyE P)} {call:zmX A} (hcall:zqJ P w0 call) {zkm:List Oper->St->(St->Option A)->Option A} (hdraw:zyp P w0 zkm) {lt:LT} {N:Nat} {r:A}:
  ∀(c:Code),(∀c'∈zeV c,∀f,lt (key c')=some f->zkp P c' f)->∀(s:St) (K:X->St->Option A),evC T call zkm lt N c s K=some r->
   ∀(ρ:Nat->Option Nat) (a:Act) (w:World) (Q:Exit->Act->World->Prop),Rel w0 ρ s a w->zKu P w0 ρ K r Q->c.wp P Q a w:=by
 intro c
 induction c with
 | skip=>intro _ s K h ρ a w Q hr hq;exact wp_skip (hq .norm s ρ a w (Ext.refl _) hr h)
 | ret=>intro _ s K h ρ a w Q hr hq;exact wp_ret (hq .ret s ρ a w (Ext.refl _) hr h)
 | exit id=>intro _ s K h ρ a w Q hr hq;exact wp_exit (hq (.exit id) s ρ a w (Ext.refl _) hr h)
 | seq x y ihx ihy=>
  intro hl s K h ρ a w Q hr hq
  simp only [evC] at h
  refine wp_seq (ihx (fun c' hc=>hl c' (by simp [zeV,hc])) s _ h ρ a w _ hr fun z s' ρ' a' w' e hr' hk=>?_)
  cases z with
  | norm=>exact ihy (fun c' hc=>hl c' (by simp [zeV,hc])) s' K hk ρ' a' w' Q hr' fun z s'' ρ'' a'' w'' e' h1 h2=>hq z s'' ρ'' a'' w'' (e.trans e') h1 h2
  | exit id=>exact hq (.exit id) s' ρ' a' w' e hr' hk
  | ret=>exact hq .ret s' ρ' a' w' e hr' hk
 | cond c x y ihx ihy=>
  intro hl s K h ρ a w Q hr hq
  simp only [evC] at h
  split at h<;>try (cases h;done)
  rename_i t ht
  have hv:=hr.ev ht
  cases hc:a.eval c<;>rw [hc] at hv<;>cases hv
  refine wp_cond hc ?_
  have hr1:=hr.know ht
  cases t with
  | true=>exact ihx (fun c' hc=>hl c' (by simp [zeV,hc])) (s.know c true) K (by simpa using h) ρ a w Q hr1 hq
  | false=>exact ihy (fun c' hc=>hl c' (by simp [zeV,hc])) (s.know c false) K (by simpa using h) ρ a w Q hr1 hq
 | block id x ih=>
  intro hl s K h ρ a w Q hr hq
  simp only [evC] at h
  refine wp_block (ih (fun c' hc=>hl c' (by simpa [zeV] using hc)) s _ h ρ a w _ hr fun z s' ρ' a' w' e hr' hk=>?_)
  cases z with
  | norm=>exact hq .norm s' ρ' a' w' e hr' hk
  | ret=>exact hq .ret s' ρ' a' w' e hr' hk
  | exit j=>
   simp only [X.out,Exit.inBlock]
   cases hj:Nat.beq j id with
   | true=>
    simp only [hj,cond_true] at hk
    rw [if_pos (Nat.eq_of_beq_eq_true hj)]
    exact hq .norm s' ρ' a' w' e hr' hk
   | false=>
    simp only [hj,cond_false] at hk
    rw [if_neg (fun hh=>by rw [hh] at hj;simp at hj)]
    exact hq (.exit j) s' ρ' a' w' e hr' hk
 | loop x ih=>
  intro hl s K h ρ a w Q hr hq
  simp only [evC] at h
  split at h
  ·rename_i f hf
   exact hl x (by simp [zeV]) f hf A w0 s K r h ρ a w Q hr hq
  ·refine wp_loop_rounds N (zvN (fun s K h ρ a w Q hr hq=>ih (fun c' hc=>hl c' (by simp [zeV,hc])) s K h ρ a w Q hr hq) N s K h ρ a w hr hq)
 | region id ops draw=>
  intro hl s K h ρ a w Q hr hq
  simp only [evC] at h
  cases draw with
  | true=>
   simp only [cond_true] at h
   exact hdraw id ops s _ r h ρ a w Q hr fun s' ρ' a' w' e hr' hk=>hq .norm s' ρ' a' w' e hr' hk
  | false=>
   simp only [cond_false] at h
   exact wp_region_list (zsM hcall ops.toList s _ h ρ a w hr fun s' ρ' a' w' e hr' hk=>hq .norm s' ρ' a' w' e hr' hk)
 | _=>intro _ s K h;simp [evC] at h
def Does (P:Program) (f:Nat) (xs:Array Value) (w:World) (R:Value->World->Prop):Prop:=
 ∀(o:Oper) (a:Act) (next:Act->World->Prop) (Q:Exit->Act->World->Prop),(∀x w',R x w'->next (a.put o.dst x) w')->
  o.upon P a next Q ((callFunc f xs).run P w)
theorem Does.mono {f:Nat} {xs:Array Value} {w:World} {R R':Value->World->Prop} (h:Does P f xs w R) (k:∀x w',R x w'->R' x w'):Does P f xs w R':=
 fun o a next Q hn=>h o a next Q fun x w' hx=>hn x w' (k x w' hx)
structure Ent (P:Program) where
 id:Nat
 g:List V->List (Nat×List V)->Bool
 fn:List V->List (Nat×List V)->Option V
 ok:∀(vs:List V) (m:Mem) (v:V),g vs m.blks=true->fn vs m.blks=some v->
  ∀(w0:World) (ρ:Nat->Option Nat) (xs:List Value) (w:World),VRs ρ vs xs->MRel w0 ρ m w->
   Does P id xs.toArray w fun x w'=>VR ρ v x/\Below w.heap.size w w'
 made:Option (Nat×List V):=none
 mkok:∀q cs,made=some (q,cs)->∃xs ty,(∀ρ,VRs ρ cs xs)/\∀w,Does P id #[] w fun x w'=>x= .slice (some ⟨w.heap.size,0,none⟩) q q/\w'=w.alloc (.cells xs.toArray ty (0,0)):=by
  intro q cs h;cases h
 nsl:List V->List (Nat×List V)->Option (Bool×List V):=fun _ _=>none
 nslok:∀(vs:List V) (m:Mem) (cs:List V),nsl vs m.blks=some (true,cs)->∀(w0:World) (ρ:Nat->Option Nat) (xs:List Value) (w:World),VRs ρ vs xs->MRel w0 ρ m w->
   ∃ys ty,VRs ρ cs ys/\Does P id xs.toArray w fun x w'=>x= .slice (some ⟨w.heap.size,0,none⟩) cs.length cs.length/\w'=w.alloc (.cells ys.toArray ty (0,0)):=by
  intro vs m cs h;cases h
 /-- A call that answers a pointer to a new block, and 0. -/
 mkp:List V->Option (Bool×List V):=fun _=>none
 mkpok:∀(vs:List V) (cs:List V),mkp vs=some (true,cs)->∀(w0:World) (ρ:Nat->Option Nat) (m:Mem) (xs:List Value) (w:World),VRs ρ vs xs->MRel w0 ρ m w->
   Does P id xs.toArray w fun x w'=>∃r ys ty,x= .tuple #[.pointer (some ⟨r,0,none⟩),.int .i64 0]/\w.heap.size<=r/\w'.heap[r]?=some (.cells ys.toArray ty (0,0))/\(∀ρ,VRs ρ cs ys)/\Below w.heap.size w w':=by
  intro vs cs h;cases h
def entf {P:Program}:List (Ent P)->Nat->Option (Ent P)
 | [],_=>none
 | e::t,i=>bif Nat.beq e.id i then some e else entf t i
theorem zv2 {T:List (Ent P)} {i:Nat} {e:Ent P} (h:entf T i=some e):e.id=i:=by
 induction T with
 | nil=>simp [entf] at h
 | cons x T ih=>
  simp only [entf] at h
  cases hb:Nat.beq x.id i with
  | true=>simp [hb] at h;subst h;simpa using hb
  | false=>simp [hb] at h;exact ih h
structure zar (P:Program) (code:Code) where
 lt:LT
 ok:∀c'∈zeV code,∀f,lt (key c')=some f->zkp P c' f
def zar.no (P:Program) (code:Code):zar P code:=⟨fun _=>none,fun _ _ _ h=>by cases h⟩
structure Bod (P:Program) where
 id:Nat
 fn:Func
 code:Code
 hf:P.funcs[id]?=some fn
 hb:fn.body=some code
 hn : (fn.name == "runtime.NumGoroutine") = false
 lp:zar P code
def bodf {P:Program}:List (Bod P)->Nat->Option (Bod P)
 | [],_=>none
 | e::t,i=>bif Nat.beq e.id i then some e else bodf t i
theorem zMM {T:List (Bod P)} {i:Nat} {e:Bod P} (h:bodf T i=some e):e.id=i:=by
 induction T with
 | nil=>simp [bodf] at h
 | cons x T ih=>
  simp only [bodf] at h
  cases hb:Nat.beq x.id i with
  | true=>simp [hb] at h;subst h;simpa using hb
  | false=>simp [hb] at h;exact ih h
def zipF:Nat->List V->List (Nat×V)
 | _,[]=> []
 | i,v::vs=>(i,v)::zipF (i+1) vs
def resv (T:List (TyE P)) (s:St):List ResultVar->Option (List V)
 | []=>some []
 | .tmp t::rs=>match lk s.tm t,resv T s rs with
  | some v,some vs=>some (v::vs)
  | _,_=>none
 | .cell t ty::rs=>match lk s.tm t,tyf T ty with
  | some (.ptr b o),some e=>match zqA e.kd with
   | some true=>match s.mm.load b o e.size,resv T s rs with
    | some cs,some vs=>some (.agg cs::vs)
    | _,_=>none
   | some false=>match s.mm.load1 b o,resv T s rs with
    | some v,some vs=>some (v::vs)
    | _,_=>none
   | none=>none
  | _,_=>none
def oneV:List V->V
 | [v]=>v
 | vs=> .tup vs
def runk (T:List (TyE P)) (call:zmX A) (zkm:List Oper->St->(St->Option A)->Option A) (N:Nat) (b:Bod P) (vs:List V) (m:Mem) (K:V->Mem->Option A):Option A:=
 bif Nat.ble vs.length b.fn.ntmps then
  evC T call zkm b.lp.lt N b.code ⟨zipF 0 vs,b.fn.ntmps,m⟩ fun x s=>match x with
   | .exit _=>none
   | _=>match resv T s b.fn.results.toList with
    | some us=>K (oneV us) s.mm
    | none=>none
 else none
def zxW (tmps:Array Value):ResultVar->Sem Value
 | .tmp t=>pure (tmps.getD t undef)
 | .cell a t=>do loadVar t (<- asAddr (tmps.getD a undef))
theorem zul {T:List (TyE P)} {ρ:Nat->Option Nat} {s:St} {a:Act} {w:World} (h:Rel w0 ρ s a w):∀(rs:List ResultVar) (vs:List V),resv T s rs=some vs->
  ∃xs,(rs.mapM (zxW a.tmps)).run P w= .ok xs w/\VRs ρ vs xs
 | [],vs,hv=>by simp [resv] at hv;subst hv;exact ⟨[],by simp,.nil⟩
 | .tmp t::rs,vs,hv=>by
  simp only [resv] at hv
  split at hv<;>try (cases hv;done)
  rename_i v us h1 h2
  cases hv
  obtain ⟨x,hx,hvx⟩:=h.tm t v h1
  obtain ⟨xs,h3,h4⟩:=zul h rs us h2
  exact ⟨x::xs,by simp only [List.mapM_cons,zxW,Sem.run_bind,Sem.run_pure,Result.andThen_ok,h3];simp [hx],.cons hvx h4⟩
 | .cell t ty::rs,vs,hv=>by
  simp only [resv] at hv
  split at hv<;>try (cases hv;done)
  rename_i b o e h1 he
  have hid:=zdC he
  obtain ⟨x,hx,hvx⟩:=h.tm t _ h1
  cases hvx
  rename_i r hr
  have hget:a.tmps.getD t undef= .pointer (some ⟨r,o,none⟩):=by simp [hx]
  split at hv<;>try (cases hv;done)
  ·rename_i hagg
   split at hv<;>try (cases hv;done)
   rename_i cs us hcs hus
   cases hv
   obtain ⟨r',ys,hr',hl,hvl⟩:=h.mr.load (P:=P) hcs
   rw [hr] at hr';cases hr'
   have e1:=e.run_agg hagg w
   have e2:=e.run_size w
   rw [hid] at e1 e2
   obtain ⟨xs,h3,h4⟩:=zul h rs us hus
   exact ⟨.agg ys.toArray::xs,by simp only [List.mapM_cons,zxW,Sem.run_bind,hget,asAddr,Sem.run_pure,Result.andThen_ok,loadVar,e1,e2,if_true,hl,h3],.cons (.agg hvl) h4⟩
  ·rename_i hagg
   split at hv<;>try (cases hv;done)
   rename_i v us hcs hus
   cases hv
   obtain ⟨r',y,hr',hc,hvl⟩:=h.mr.load1 hcs
   rw [hr] at hr';cases hr'
   have e1:=e.run_agg hagg w
   rw [hid] at e1
   obtain ⟨xs,h3,h4⟩:=zul h rs us hus
   exact ⟨y::xs,by simp only [List.mapM_cons,zxW,Sem.run_bind,hget,asAddr,Sem.run_pure,Result.andThen_ok,loadVar,e1,Bool.false_eq_true,if_false,run_load,hc,h3],.cons hvl h4⟩
theorem zmx {T:List (TyE P)} {ρ:Nat->Option Nat} {s:St} {a:Act} {w:World} (h:Rel w0 ρ s a w) {fn:Func} {vs:List V} (hv:resv T s fn.results.toList=some vs):
  ∃x,(results fn a.tmps).run P w= .ok x w/\VR ρ (oneV vs) x:=by
 obtain ⟨xs,h1,h2⟩:=zul h _ _ hv
 have hm:(fn.results.mapM (zxW a.tmps)).run P w= .ok xs.toArray w:=by
  rw [Array.mapM_eq_mapM_toList,Sem.run_map,h1];rfl
 have hl:=h2.length
 have hres:results fn a.tmps=(do
   let vs <- fn.results.mapM (zxW a.tmps)
   pure (if h:vs.size=1 then vs[0] else .tuple vs)):=by
  unfold results
  congr 1
 rw [hres]
 simp only [Sem.run_bind]
 rw [hm]
 simp only [Result.andThen_ok,Sem.run_pure]
 match vs,h2 with
 | [],.nil=>exact ⟨_,rfl,.tup (xs:= []) .nil⟩
 | [v],.cons hv .nil=>exact ⟨_,rfl,hv⟩
 | v::u::vs,.cons (x:=x) hv (.cons (x:=y) (xs:=ys) hu ht)=>
  refine ⟨_,rfl,?_⟩
  rw [dif_neg (by simp)]
  exact .tup (.cons hv (.cons hu ht))
theorem zys {ρ:Nat->Option Nat}:∀(vs:List V) (xs:List Value) (i t:Nat) (v:V),VRs ρ vs xs->lk (zipF i vs) t=some v->∃x,i<=t/\xs[t-i]?=some x/\VR ρ v x
 | [],_,_,_,_,_,h=>by simp [zipF,lk] at h
 | u::vs,xs,i,t,v,hv,h=>by
  cases hv with
  | cons hv ht=>
   rename_i x xt
   simp only [zipF,zbz] at h
   by_cases hi:i=t
   ·subst hi;simp at h;subst h;exact ⟨x,Nat.le_refl _,by simp,hv⟩
   ·rw [if_neg hi] at h
    obtain ⟨y,h1,h2,h3⟩:=zys vs xt (i+1) t v ht h
    exact ⟨y,by omega,by rw [show t-i=(t-(i+1))+1 by omega];simpa using h2,h3⟩
theorem zfv {b:Bod P} (args:Array Value) (w:World):(callFunc b.id args).run P w= .ok (.enter b.id args) w:=by
 have hn : b.fn.name ≠ "runtime.NumGoroutine" := by simpa using b.hn
 simp [callFunc,b.hf,hn,b.hb]
theorem zp3 {T:List (TyE P)} {call:zmX A} (hcall:zqJ P w0 call) {zkm:List Oper->St->(St->Option A)->Option A} (hdraw:zyp P w0 zkm) {N:Nat} {b:Bod P} {vs:List V} {m:Mem}
  {K:V->Mem->Option A} {r:A} (h:runk T call zkm N b vs m K=some r) {ρ:Nat->Option Nat} {xs:List Value} {w:World} (hv:VRs ρ vs xs) (hm:MRel w0 ρ m w):
  Calls P b.id xs.toArray w fun e w'=>∃v m' ρ' x,e= .returned x/\Ext ρ ρ'/\VR ρ' v x/\MRel w0 ρ' m' w'/\K v m'=some r:=by
 unfold runk at h
 cases hle:Nat.ble vs.length b.fn.ntmps with
 | false=>simp [hle] at h
 | true=>
  simp only [hle,cond_true] at h
  have hle':=Nat.le_of_ble_eq_true hle
  have hl:=hv.length
  refine calls_of_wp b.hf b.hb (zlo hcall hdraw b.code b.lp.ok _ _ h ρ _ w _ ⟨fun t v ht=>?_,by simp;omega,rfl,hm⟩ ?_)
  ·obtain ⟨x,_,h1,h2⟩:=zys vs xs 0 t v hv ht
   refine ⟨x,?_,h2⟩
   have hlt:t<xs.length:=by
    rcases Nat.lt_or_ge t xs.length with h|h
    ·exact h
    ·simp [List.getElem?_eq_none h] at h1
   have h1':xs[t]?=some x:=by simpa using h1
   simp only [Array.getElem?_append,List.size_toArray,hlt,if_true,List.getElem?_toArray,h1']
  ·intro x s' ρ' a' w' e hr hk
   have fin:(match resv T s' b.fn.results.toList with
     | some us=>K (oneV us) s'.mm
     | none=>none)=some r->a'.defers= []/\∃v,(results b.fn a'.tmps).run P w'= .ok v w' /\
      ∃v_1 m' ρ' x,Ending.returned v= .returned x/\Ext ρ ρ'/\VR ρ' v_1 x/\MRel w0 ρ' m' w'/\K v_1 m'=some r:=by
    intro hk
    split at hk<;>try (cases hk;done)
    rename_i us hus
    obtain ⟨y,h1,h2⟩:=zmx (P:=P) hr hus
    exact ⟨hr.df,y,h1,_,_,ρ',y,rfl,e,h2,hr.mr,hk⟩
   cases x with
   | norm=>exact fin hk
   | ret=>exact fin hk
   | exit id=>cases hk
def zoH (T:List (TyE P)) (zkm:zmX A->List Oper->St->(St->Option A)->Option A) (Es:List (Ent P)) (Bs:List (Bod P)) (N:Nat):Nat->zmX A
 | 0,f,vs,m,K=>match entf Es f with
  | some e=>bif e.g vs m.blks then match e.fn vs m.blks with
    | some v=>K v m
    | none=>none
   else match e.nsl vs m.blks with
    | some (g,cs)=>bif g then K (.slc m.nxt 0 cs.length cs.length) (m.new cs) else none
    | none=>none
  | none=>none
 | d+1,f,vs,m,K=>match entf Es f with
  | some e=>bif e.g vs m.blks then match e.fn vs m.blks with
    | some v=>K v m
    | none=>none
   else match e.nsl vs m.blks with
    | some (g,cs)=>bif g then K (.slc m.nxt 0 cs.length cs.length) (m.new cs) else none
    | none=>none
  | none=>match bodf Bs f with
   | some b=>runk T (zoH T zkm Es Bs N d) (zkm (zoH T zkm Es Bs N d)) N b vs m K
   | none=>none
theorem zKZ {Es:List (Ent P)} {f:Nat} {vs:List V} {m:Mem} {K:V->Mem->Option A} {r:A} {e:Ent P} (he:entf Es f=some e)
  (h:(bif e.g vs m.blks then match e.fn vs m.blks with
    | some v=>K v m
    | none=>none
   else match e.nsl vs m.blks with
    | some (g,cs)=>bif g then K (.slc m.nxt 0 cs.length cs.length) (m.new cs) else none
    | none=>none)=some r) {ρ:Nat->Option Nat} {xs:List Value} {w:World} (hv:VRs ρ vs xs) (hm:MRel w0 ρ m w)
  (o:Oper) (a:Act) (next:Act->World->Prop) (Q:Exit->Act->World->Prop)
  (hn:∀v m' ρ' x w',Ext ρ ρ'->VR ρ' v x->MRel w0 ρ' m' w'->K v m'=some r->next (a.put o.dst x) w'):o.upon P a next Q ((callFunc f xs.toArray).run P w):=by
 have hid:=zv2 he
 cases hg:e.g vs m.blks with
 | false=>
  simp only [hg,cond_false] at h
  split at h<;>try (cases h;done)
  rename_i g cs hcs
  cases g<;>simp only [cond_false,cond_true] at h<;>try (cases h;done)
  obtain ⟨ys,ty,hy,hd⟩:=e.nslok vs m cs hcs w0 ρ xs w hv hm
  rw [hid] at hd
  obtain ⟨ρ',he',hr,hm'⟩:=hm.new hy ty
  exact hd o a next Q fun x w' ⟨h1,h2⟩=>by subst h1;subst h2;exact hn _ _ ρ' _ _ he' (.slc hr) hm' h
 | true=>
  simp only [hg,cond_true] at h
  split at h<;>try (cases h;done)
  rename_i v hv'
  have:=e.ok vs m v hg hv' w0 ρ xs w hv hm
  rw [hid] at this
  exact this o a next Q fun x w' ⟨h1,h2⟩=>hn v m ρ x w' (Ext.refl _) h1 (hm.below h2) h
theorem zh7 {T:List (TyE P)} {zkm:zmX A->List Oper->St->(St->Option A)->Option A} (hdraw:∀call,zqJ P w0 call->zyp P w0 (zkm call)) {Es:List (Ent P)} {Bs:List (Bod P)} {N:Nat}:
  ∀d,zqJ P w0 (zoH T zkm Es Bs N d)
 | 0=>fun f vs m K r h ρ xs w hv hm o a next Q hn=>by
  simp only [zoH] at h
  split at h<;>try (cases h;done)
  rename_i e he
  exact zKZ he h hv hm o a next Q hn
 | d+1=>fun f vs m K r h ρ xs w hv hm o a next Q hn=>by
  simp only [zoH] at h
  split at h
  ·rename_i e he
   exact zKZ he h hv hm o a next Q hn
  ·split at h<;>try (cases h;done)
   rename_i b hb
   have hid:=zMM hb
   subst hid
   have ih:=zh7 (T:=T) hdraw (Es:=Es) (Bs:=Bs) (N:=N) d
   rw [zfv,Oper.upon_enter]
   refine (zp3 ih (hdraw _ ih) h hv hm).mono fun e w' he=>?_
   obtain ⟨v,m',ρ',x,rfl,h1,h2,h3,h4⟩:=he
   exact hn v m' ρ' x w' h1 h2 h3 h4
end
end Go.Proofs.YtaoakfodkoifoaaGreat.Ev
/-
 A small evaluator for the program's code: regions that draw their order: one walk in the text's order serves every order.
-/
namespace Go.Proofs.YtaoakfodkoifoaaGreat.Ev
open Go Go.RowKit
variable [Amb]
inductive Eff where
 | val (v:V) (rd:List Nat)
 | new (c:Nat×List V)
 | st (b:Nat) (cs:List V)
section
variable {P:Program}
def hasN:List Nat->Nat->Bool
 | [],_=>false
 | a::t,b=>Nat.beq a b||hasN t b
theorem zEF {l:List Nat} {b:Nat}:hasN l b=true↔b∈l:=by
 induction l with
 | nil=>simp [hasN]
 | cons a t ih=>simp [hasN,ih];constructor<;>(rintro (h|h)<;>simp_all)
def ztt:List V->List Nat
 | []=> []
 | .ptr b _::t=>b::ztt t
 | .slc b _ _ _::t=>b::ztt t
 | _::t=>ztt t
theorem zsG {ρ:Nat->Option Nat} {b:Nat}:∀ {vs:List V} {xs:List Value},hasN (ztt vs) b=true->VRs ρ vs xs->∃r,ρ b=some r
  | [],_,h,_=>by simp [ztt,hasN] at h
  | v::vs,xs,h,hv=>by
    cases hv with
    | cons h1 ht=>
      cases v<;>simp only [ztt] at h<;>first
        | exact zsG h ht
        | (simp only [hasN,Bool.or_eq_true] at h
           rcases h with h|h
           · have:=Nat.eq_of_beq_eq_true h;subst this;cases h1;rename_i r hr;exact ⟨r,hr⟩
           · exact zsG h ht)
def zFK (blks:List (Nat×List V)):List Nat->List (Nat×List V)
 | []=> []
 | b::t=>match lk blks b with
  | some cs=>(b,cs)::zFK blks t
  | none=>zFK blks t
theorem zup {blks:List (Nat×List V)}:∀ {l:List Nat} {b:Nat} {cs:List V},lk (zFK blks l) b=some cs->lk blks b=some cs/\hasN l b=true
 | [],b,cs,h=>by simp [zFK,lk] at h
 | x::l,b,cs,h=>by
  simp only [zFK] at h
  split at h
  ·rename_i cs' hc
   simp only [zbz] at h
   by_cases hx:x=b
   ·subst hx;simp at h;subst h;exact ⟨hc,by simp [hasN]⟩
   ·rw [if_neg hx] at h
    obtain ⟨h1,h2⟩:=zup h
    exact ⟨h1,by simp [hasN,h2]⟩
  ·obtain ⟨h1,h2⟩:=zup h
   exact ⟨h1,by simp [hasN,h2]⟩
def zvK (blks:List (Nat×List V)) (vs:List V):List (Nat×List V):=zFK blks (ztt vs)
def zF0 (Es:List (Ent P)):zmX V:=fun f vs m K=>match entf Es f with
 | some e=>bif e.g vs (zvK m.blks vs) then match e.fn vs (zvK m.blks vs) with
   | some v=>K v m
   | none=>none
  else none
 | none=>none
def rdOf (s:St) (o:Oper):List Nat:=match o.op with
 | .load _ x=>match s.ev x with
  | some (.ptr b _)=> [b]
  | _=> []
 | .call c=>match c.callee with
  | .value f=>match s.ev f,s.evs c.args.toList with
   | some (.fn _ caps),some vs=>ztt (vs++caps)
   | _,_=> []
  | _=> []
 | _=> []
def zrj (k:Nat):Nat->V
 | 0=> .ptr k 0
 | n+1=>bif Nat.beq n 1000001 then .tup [.ptr k 0,.i64 ⟨0,rfl⟩] else .slc k 0 n n
theorem zxO {k n:Nat} (h:Nat.beq n 1000001=false):zrj k (n+1)= .slc k 0 n n:=by simp only [zrj,h,cond_false]
def zBE (T:List (TyE P)) (Es:List (Ent P)) (s:St) (o:Oper):Option Eff:=
 match o.op with
 | .alloc t=>match tyf T t with
  | some e=>some (.new (0,e.zero))
  | none=>none
 | .box _ x=>match s.ev x with
  | some v=>some (.new (0,v.cells))
  | none=>none
 | .store t x y=>match tyf T t,s.ev x,s.ev y with
  | some e,some (.ptr b off),some v=>bif Nat.beq v.cells.length e.size&&Nat.blt b s.mm.nxt then match s.mm.store b off v.cells with
    | some m=>match lk m.blks b with
     | some cs=>some (.st b cs)
     | none=>none
    | none=>none
   else none
  | _,_,_=>none
 | .buildSlice t n ps=>match tyf T t,s.evps ps.toList with
  | some e,some vs=>match e.kd with
   | .slice et es=>match tyf T et with
    | some ee=>bif Nat.beq ee.size es&&Nat.beq ee.zero.length es&&Nat.ble (n*es) 1000 && !Nat.beq (n*es) 0 then
      match zzQ (fun i=>some (i*es,es)) ((List.range (n*es)).map fun i=>ee.zero.getD (i%es) .nils) vs with
      | some cs=>some (.new (n+1,cs))
      | none=>none
     else none
    | none=>none
   | _=>none
  | _,_=>none
 | _=>match opk T (zF0 Es) s o (fun v _=>some v) with
  | some v=>some (.val v (rdOf s o))
  | none=>none
def mkOf (Es:List (Ent P)) (o:Oper):Option (Nat×List V):=
 match o.op with
 | .call c=>match c.callee with
  | .value (.func g)=>bif Nat.beq c.args.size 0 then match entf Es g with
    | some e=>e.made
    | none=>none
   else none
  | _=>none
 | _=>none
theorem zNG {Es:List (Ent P)} {o:Oper} {q:Nat} {cs:List V} (h:mkOf Es o=some (q,cs)):∃xs ty,(∀ρ,VRs ρ cs xs)/\∀(a:Act) (w:World) (K:Act->World->Prop) (Q:Exit->Act->World->Prop),
  K (a.put o.dst (.slice (some ⟨w.heap.size,0,none⟩) q q)) (w.alloc (.cells xs.toArray ty (0,0)))->o.upon P a K Q ((execOp a.eval o).run P w):=by
 unfold mkOf at h
 split at h<;>try (cases h;done)
 rename_i c hop
 split at h<;>try (cases h;done)
 rename_i g hc
 cases hz:Nat.beq c.args.size 0 with
 | false=>simp [hz] at h
 | true=>
  simp only [hz,cond_true] at h
  split at h<;>try (cases h;done)
  rename_i e he
  have hid:=zv2 he
  obtain ⟨xs,ty,h1,h2⟩:=e.mkok q cs h
  refine ⟨xs,ty,h1,fun a w K Q hk=>?_⟩
  have hargs:c.args=#[]:=Array.eq_empty_of_size_eq_zero (Nat.eq_of_beq_eq_true hz)
  have hd:=h2 w
  rw [hid] at hd
  have e1:(execOp a.eval o).run P w=(callFunc g #[]).run P w:=by
   simp only [execOp,hop,resolve,hc,Act.eval,Deferred.ofValue,pure_bind,invoke,hargs]
   rw [show (#[]:Array Value)++Array.map a.eval #[]++#[]=#[] by simp]
  rw [e1]
  exact hd o a K Q fun x w' ⟨k1,k2⟩=>by rw [k1,k2];exact hk
def zCZ (Es:List (Ent P)) (s:St) (o:Oper):Option (Bool×List V):=
 match o.op with
 | .call c=>match c.callee with
  | .value (.func g)=>match s.evs c.args.toList with
   | some vs=>match entf Es g with
    | some e=>e.mkp vs
    | none=>none
   | none=>none
  | _=>none
 | _=>none
theorem zL5 {Es:List (Ent P)} {s:St} {o:Oper} {w0:World} {ρ:Nat->Option Nat} {a:Act} {w:World} {cs:List V} (h:zCZ Es s o=some (true,cs)) (hr:Rel w0 ρ s a w):
  ∀(K:Act->World->Prop) (Q:Exit->Act->World->Prop),(∀(r:Nat) (ys:List Value) (ty:TypeId) (w':World),w.heap.size<=r->w'.heap[r]?=some (.cells ys.toArray ty (0,0))->(∀ρ,VRs ρ cs ys)->Below w.heap.size w w'->
   K (a.put o.dst (.tuple #[.pointer (some ⟨r,0,none⟩),.int .i64 0])) w')->o.upon P a K Q ((execOp a.eval o).run P w):=by
 unfold zCZ at h
 split at h<;>try (cases h;done)
 rename_i c hop
 split at h<;>try (cases h;done)
 rename_i g hc
 split at h<;>try (cases h;done)
 rename_i vs hvs
 split at h<;>try (cases h;done)
 rename_i e he
 have hid:=zv2 he
 have hargs:=hr.evs hvs
 intro K Q hk
 have hd:=e.mkpok vs cs h w0 ρ s.mm (c.args.toList.map a.eval) w hargs hr.mr
 rw [hid] at hd
 have e1:(execOp a.eval o).run P w=(callFunc g (c.args.toList.map a.eval).toArray).run P w:=by
  simp only [execOp,hop,resolve,hc,Act.eval,Deferred.ofValue,pure_bind,invoke]
  rw [show (#[]:Array Value)++Array.map a.eval c.args++#[]=(c.args.toList.map a.eval).toArray by apply Array.ext';simp]
 rw [e1]
 exact hd o a K Q fun x w' ⟨r,ys,ty,k1,k2,k3,k4,k5⟩=>by rw [k1];exact hk r ys ty w' k2 k3 k4 k5
def zBF (T:List (TyE P)) (Es:List (Ent P)) (s:St) (o:Oper):Option Eff:=match opg T s o with
 | some (g,v)=>bif g then some (.val v []) else none
 | none=>match mkOf Es o with
  | some (q,cs)=>bif Nat.beq q 1000001 then none else some (.new (q+1,cs))
  | none=>match zCZ Es s o with
   | some (g,cs)=>bif g then some (.new (1000002,cs)) else none
   | none=>zBE T Es s o
def St.eff (s:St) (d:Option Tmp):Eff->St
 | .val v _=>s.put d v s.mm
 | .new c=>s.put d (zrj s.mm.nxt c.1) (s.mm.new c.2)
 | .st b cs=>s.put d (.tup []) ⟨(b,cs)::s.mm.blks,s.mm.nxt,s.mm.lo⟩
def zu0 (R:List Oper) (j:Nat):Option Nat:=match R[j]? with
 | some o=>o.dst
 | none=>none
def St.kn (R:List Oper) (s:St) (o:Oper):St:=match o.guard with
 | some (j,_)=>match zu0 R j with
  | some d=>match lk s.tm d with
   | some (.bool b)=>⟨(d,.bool b)::s.tm,s.n,s.mm⟩
   | _=>s
  | none=>s
 | none=>s
def zwE (R:List Oper) (s:St) (o:Oper):Option Bool:=match o.guard with
 | some (j,want)=>match zu0 R j with
  | some d=>match lk s.tm d with
   | some (.bool b)=>some (b==want)
   | some (.tup [])=>some false
   | _=>none
  | none=>none
 | none=>some true
def effG (R:List Oper) (T:List (TyE P)) (Es:List (Ent P)) (s:St) (o:Oper):Option Eff:=match zwE R s o with
 | some true=>zBF T Es s o
 | some false=>some (.val (.tup []) [])
 | none=>none
def zpb (R:List Oper) (T:List (TyE P)) (Es:List (Ent P)):List Oper->St->Option (List Eff×St)
 | [],s=>some ([],s)
 | o::rest,s=>bif s.fits o.dst then match effG R T Es (s.kn R o) o with
   | some e=>match zpb R T Es rest ((s.kn R o).eff o.dst e) with
    | some (es,s')=>some (e::es,s')
    | none=>none
   | none=>none
  else none
def zNh (R:List Oper) (o:Oper):List Nat:=match o.guard with
 | some (j,_)=>match zu0 R j with
  | some d=> [d]
  | none=> []
 | none=> []
def zmA (R:List Oper) (o:Oper):List Nat:=zNh R o++o.op.operands.toList.filterMap fun | .tmp t=>some t|_=>none
def meets (d:Option Nat) (l:List Nat):Bool:=match d with
 | some d=>hasN l d
 | none=>false
def isLd (o:Oper):Bool:=match o.op with
 | .load _ _=>true
 | _=>false
def hits:Eff->Eff->Bool
 | .val _ l,.st b _=>hasN l b
 | .st b _,.val _ l=>hasN l b
 | _,_=>false
def clash (a b:Oper) (ea eb:Eff):Bool:=
 (match a.dst,b.dst with
  | some x,some y=>Nat.beq x y
  | _,_=>false) ||
 (match ea,eb with
  | .st x _,.st y _=>Nat.beq x y
  | _,_=>false)
def zxA (R:List Oper) (a b:Oper) (ea eb:Eff):Bool:=
 meets a.dst (zmA R b)||meets b.dst (zmA R a)||hits ea eb
def linked (b:Oper) (i:Nat):Bool:=b.after.toList.any fun e=>Nat.beq e.on i&&Region.binds .any e
def zrJ (R:List Oper) (i:Nat) (a:Oper) (ea:Eff) (b:Oper) (eb:Eff):Bool:= !clash a b ea eb&&(!zxA R a b ea eb||linked b i)
def zBp (R:List Oper) (i:Nat) (a:Oper) (ea:Eff):List Oper->List Eff->Bool
 | b::bs,eb::es=>zrJ R i a ea b eb&&zBp R i a ea bs es
 | _,_=>true
def znZ (R:List Oper):Nat->List Oper->List Eff->Bool
 | i,a::os,ea::es=>a.after.toList.all (fun e=> !Region.binds .any e||Nat.blt e.on i)&&zBp R i a ea os es&&znZ R (i+1) os es
 | _,_,_=>true
def zkm {A:Type} (T:List (TyE P)) (Es:List (Ent P)) (ops:List Oper) (s:St) (K:St->Option A):Option A:=
 match zpb ops T Es ops s with
 | some (es,s')=>bif znZ ops 0 ops es then K s' else none
 | none=>none
variable {R:List Oper}
theorem zv3 {T:List (TyE P)} {Es:List (Ent P)}:∀ {os:List Oper} {s s':St} {es:List Eff},zpb R T Es os s=some (es,s')->es.length=os.length
 | [],s,s',es,h=>by simp [zpb] at h;simp [<- h.1]
 | o::os,s,s',es,h=>by
  simp only [zpb] at h
  cases hf:s.fits o.dst with
  | false=>simp [hf] at h
  | true=>
   simp only [hf,cond_true] at h
   split at h<;>try (cases h;done)
   split at h<;>try (cases h;done)
   rename_i hr
   simp only [Option.some.injEq,Prod.mk.injEq] at h
   obtain ⟨rfl,rfl⟩:=h
   simp [zv3 hr]
theorem zvz {i:Nat} {a:Oper} {ea:Eff}:∀ {os:List Oper} {es:List Eff} (k:Nat) {b:Oper} {eb:Eff},zBp R i a ea os es=true->os[k]?=some b->es[k]?=some eb->zrJ R i a ea b eb=true
 | [],_,k,b,eb,_,h,_=>by simp at h
 | _::_,[],k,b,eb,_,_,h=>by simp at h
 | o::os,e::es,0,b,eb,h,h1,h2=>by
  simp only [zBp,Bool.and_eq_true] at h
  simp at h1 h2;subst h1;subst h2;exact h.1
 | o::os,e::es,k+1,b,eb,h,h1,h2=>by
  simp only [zBp,Bool.and_eq_true] at h
  exact zvz k h.2 (by simpa using h1) (by simpa using h2)
theorem zh5:∀ {os:List Oper} {es:List Eff} {i0:Nat},znZ R i0 os es=true->∀(i j:Nat) {a b:Oper} {ea eb:Eff},i<j->os[i]?=some a->es[i]?=some ea->os[j]?=some b->es[j]?=some eb->
  zrJ R (i0+i) a ea b eb=true
 | [],_,i0,h,i,j,a,b,ea,eb,_,h1,_,_,_=>by simp at h1
 | _::_,[],i0,h,i,j,a,b,ea,eb,_,_,h1,_,_=>by simp at h1
 | o::os,e::es,i0,h,0,j,a,b,ea,eb,hij,h1,h2,h3,h4=>by
  simp only [znZ,Bool.and_eq_true] at h
  simp at h1 h2;subst h1;subst h2
  obtain ⟨k,rfl⟩:∃k,j=k+1:=⟨j-1,by omega⟩
  exact zvz k h.1.2 (by simpa using h3) (by simpa using h4)
 | o::os,e::es,i0,h,i+1,j,a,b,ea,eb,hij,h1,h2,h3,h4=>by
  simp only [znZ,Bool.and_eq_true] at h
  obtain ⟨k,rfl⟩:∃k,j=k+1:=⟨j-1,by omega⟩
  have:=zh5 h.2 i k (by omega) (by simpa using h1) (by simpa using h2) (by simpa using h3) (by simpa using h4)
  rwa [show i0+1+i=i0+(i+1) by omega] at this
theorem zx3:∀ {os:List Oper} {es:List Eff} {i0:Nat},os.length=es.length->znZ R i0 os es=true->∀(i:Nat) {a:Oper},os[i]?=some a->∀e∈a.after,Region.binds .any e=true->e.on<i0+i
 | [],_,i0,_,h,i,a,h1=>by simp at h1
 | o::os,[],i0,hl,h,i,a,h1=>by simp at hl
 | o::os,e::es,i0,hl,h,0,a,h1=>by
  simp only [znZ,Bool.and_eq_true] at h
  simp at h1;subst h1
  intro ed he hb
  have h3:=h.1.1
  rw [List.all_eq_true] at h3
  have:=h3 ed (by simpa using he)
  simpa [hb] using this
 | o::os,e::es,i0,hl,h,i+1,a,h1=>by
  simp only [znZ,Bool.and_eq_true] at h
  intro ed he hb
  have:=zx3 (i0:=i0+1) (by simpa using hl) h.2 i (by simpa using h1) ed he hb
  omega
def valE (n0:Nat):List Eff->List V
 | []=> []
 | .val v _::t=>v::valE n0 t
 | .new c::t=>zrj n0 c.1::valE (n0+1) t
 | .st _ _::t=> .tup []::valE n0 t
def idE (n0:Nat):List Eff->List Nat
 | []=> []
 | .val _ _::t=>n0::idE n0 t
 | .new _::t=>n0::idE (n0+1) t
 | .st _ _::t=>n0::idE n0 t
theorem zyc (es:List Eff):∀(n0 i k:Nat),(idE n0 es)[i]?=some k->n0<=k:=by
 induction es with
 | nil=>intro n0 i k h;simp [idE] at h
 | cons e es ih=>
  intro n0 i k h
  cases e<;>simp only [idE] at h<;>cases i<;>simp at h<;>first
   | omega
   | exact ih _ _ _ h
   | (have:=ih _ _ _ h;omega)
theorem zvV (es:List Eff):∀(n0 i j k:Nat) (ci cj:Nat×List V),es[i]?=some (.new ci)->es[j]?=some (.new cj)->(idE n0 es)[i]?=some k->(idE n0 es)[j]?=some k->i=j:=by
 induction es with
 | nil=>intro n0 i j k ci cj h;simp at h
 | cons e es ih=>
  intro n0 i j k ci cj h1 h2 h3 h4
  cases i with
  | zero=>
   cases j with
   | zero=>rfl
   | succ j=>
    simp at h1;subst h1
    simp only [idE] at h3 h4
    simp at h3 h4
    have:=zyc es _ _ _ h4
    omega
  | succ i=>
   cases j with
   | zero=>
    simp at h2;subst h2
    simp only [idE] at h3 h4
    simp at h3 h4
    have:=zyc es _ _ _ h3
    omega
   | succ j=>
    have:i=j:=by
     cases e<;>simp only [idE] at h3 h4<;>simp at h1 h2 h3 h4<;>exact ih _ i j k ci cj h1 h2 h3 h4
    omega
def TM (ops:List Oper) (vals:List V) (tm0:List (Nat×V)) (ex:Nat->Prop) (t:Nat) (v:V):Prop:=
 (∃i o,ops[i]?=some o/\ex i/\o.dst=some t/\vals[i]?=some v) \/
 ((∀i o,ops[i]?=some o->ex i->o.dst≠some t)/\lk tm0 t=some v)
def CM (es:List Eff) (ids:List Nat) (bl0:List (Nat×List V)) (ex:Nat->Prop) (b:Nat) (cs:List V):Prop:=
 (∃i,ex i/\es[i]?=some (.st b cs)) \/
 ((∀i cs',ex i->es[i]?≠some (.st b cs'))/\((∃i q,ex i/\es[i]?=some (.new (q,cs))/\ids[i]?=some b)\/lk bl0 b=some cs))
structure Know (ops:List Oper) (es:List Eff) (s si:St) (i:Nat):Prop where
 n:si.n=s.n
 lo:si.mm.lo=s.mm.lo
 tm:∀t v,lk si.tm t=some v->TM ops (valE s.mm.nxt es) s.tm (· < i) t v
 mm:∀b cs,lk si.mm.blks b=some cs->CM es (idE s.mm.nxt es) s.mm.blks (· < i) b cs
theorem Know.zero {ops:List Oper} {es:List Eff} {s:St}:Know ops es s s 0:=
 ⟨rfl,rfl,fun t v h=> .inr ⟨fun i o _ hi=>absurd hi (Nat.not_lt_zero _),h⟩,fun b cs h=> .inr ⟨fun i cs' hi=>absurd hi (Nat.not_lt_zero _),.inr h⟩⟩
theorem Know.succ {o:Oper} {e:Eff} {ops:List Oper} {es:List Eff} {s si:St} {i:Nat} (hst:∀b cs,e= .st b cs->b<s.mm.nxt) (h:Know ops es (s.eff o.dst e) si i):Know (o::ops) (e::es) s si (i+1):=by
 have hn:(s.eff o.dst e).n=s.n:=by cases e<;>cases hd:o.dst<;>rfl
 have hlo:(s.eff o.dst e).mm.lo=s.mm.lo:=by cases e<;>cases hd:o.dst<;>rfl
 have hval:∀j v,(valE (s.eff o.dst e).mm.nxt es)[j]?=some v->(valE s.mm.nxt (e::es))[j+1]?=some v:=by
  intro j v hj
  cases e<;>cases hd:o.dst<;>simp only [hd,St.eff,St.put,Mem.new] at hj<;>simpa [valE] using hj
 have hid:∀j v,(idE (s.eff o.dst e).mm.nxt es)[j]?=some v->(idE s.mm.nxt (e::es))[j+1]?=some v:=by
  intro j v hj
  cases e<;>cases hd:o.dst<;>simp only [hd,St.eff,St.put,Mem.new] at hj<;>simpa [idE] using hj
 refine ⟨h.n.trans hn,h.lo.trans hlo,fun t v hv=>?_,fun b cs hc=>?_⟩
 ·rcases h.tm t v hv with ⟨j,oj,h1,h2,h3,h4⟩|⟨h1,h2⟩
  ·exact .inl ⟨j+1,oj,by simpa using h1,Nat.succ_lt_succ h2,h3,hval j v h4⟩
  ·by_cases hd:o.dst=some t
   ·refine .inl ⟨0,o,by simp,Nat.succ_pos _,hd,?_⟩
    cases e<;>simp [hd,St.eff,St.put,zbz] at h2<;>subst h2<;>simp [valE]
   ·refine .inr ⟨fun j oj h3 h4=>?_,?_⟩
    ·cases j with
     | zero=>simp at h3;subst h3;exact hd
     | succ j=>exact h1 j oj (by simpa using h3) (Nat.lt_of_succ_lt_succ h4)
    ·cases e<;>cases hd':o.dst<;>simp only [hd',St.eff,St.put,zbz] at h2<;>first
      | exact h2
      | (rw [if_neg (fun h=>hd (by rw [hd',h]))] at h2;exact h2)
 ·rcases h.mm b cs hc with ⟨j,h1,h2⟩|⟨h1,h2⟩
  ·exact .inl ⟨j+1,Nat.succ_lt_succ h1,by simpa using h2⟩
  ·have later:(∃cs',e= .st b cs')->CM (e::es) (idE s.mm.nxt (e::es)) s.mm.blks (· < i+1) b cs:=by
    rintro ⟨cs',rfl⟩
    refine .inl ⟨0,Nat.succ_pos _,?_⟩
    rcases h2 with ⟨j,q,h3,h4,h5⟩|h2
    ·have hlt:=hst b cs' rfl
     have hge:=zyc _ _ _ _ h5
     cases hd':o.dst<;>simp only [hd',St.eff,St.put] at hge<;>omega
    ·cases hd':o.dst<;>simp [hd',St.eff,St.put,zbz] at h2<;>subst h2<;>simp
   by_cases he:∃cs',e= .st b cs'
   ·exact later he
   ·refine .inr ⟨fun j cs' h3=>?_,?_⟩
    ·cases j with
     | zero=>simp;intro h;exact he ⟨cs',h⟩
     | succ j=>simpa using h1 j cs' (Nat.lt_of_succ_lt_succ h3)
    ·rcases h2 with ⟨j,q,h3,h4,h5⟩|h2
     ·exact .inl ⟨j+1,q,Nat.succ_lt_succ h3,by simpa using h4,hid j b h5⟩
     ·cases e with
      | val v rd=>cases hd':o.dst<;>simp only [hd',St.eff,St.put] at h2<;>exact .inr h2
      | new c=>
       cases hd':o.dst<;>simp only [hd',St.eff,St.put,Mem.new,zbz] at h2<;>(
        by_cases hb:s.mm.nxt=b
        ·rw [if_pos hb] at h2
         cases h2
         exact .inl ⟨0,c.1,Nat.succ_pos _,by simp,by simp [idE,hb]⟩
        ·rw [if_neg hb] at h2;exact .inr h2)
      | st b' c=>
       have hb:b'≠b:=fun hb=>he ⟨c,by rw [hb]⟩
       cases hd':o.dst<;>simp only [hd',St.eff,St.put,zbz] at h2<;>rw [if_neg hb] at h2<;>exact .inr h2
theorem St.kn_n (s:St) (o:Oper):(s.kn R o).n=s.n:=by
 unfold St.kn
 split<;>try rfl
 split<;>try rfl
 split<;>rfl
theorem St.kn_mm (s:St) (o:Oper):(s.kn R o).mm=s.mm:=by
 unfold St.kn
 split<;>try rfl
 split<;>try rfl
 split<;>rfl
theorem St.kn_lk (s:St) (o:Oper) (t:Nat):lk (s.kn R o).tm t=lk s.tm t:=by
 unfold St.kn
 split<;>try rfl
 split<;>try rfl
 split<;>try rfl
 rename_i d _ _ b hb
 simp only [zbz]
 by_cases hd:d=t
 ·subst hd;simp [hb]
 ·rw [if_neg hd]
theorem Know.congr {ops:List Oper} {es:List Eff} {s s1 si:St} {i:Nat} (hn:s1.n=s.n) (hm:s1.mm=s.mm) (ht:∀t,lk s1.tm t=lk s.tm t) (h:Know ops es s1 si i):Know ops es s si i:=
 ⟨h.n.trans hn,h.lo.trans (by rw [hm]),fun t v hv=>by
  rcases h.tm t v hv with ⟨j,oj,h1,h2,h3,h4⟩|⟨h1,h2⟩
  ·exact .inl ⟨j,oj,h1,h2,h3,by rw [<- hm];exact h4⟩
  ·exact .inr ⟨h1,by rw [<- ht];exact h2⟩,fun b cs hc=>by have:=h.mm b cs hc;rwa [hm] at this⟩
theorem zN7 (s s1:St) (h:s1.n=s.n) (d:Option Nat) (e:Eff):(s1.eff d e).n=(s.eff d e).n:=by cases e<;>cases d<;>exact h
theorem zEM (s s1:St) (h:s1.mm=s.mm) (d:Option Nat) (e:Eff):(s1.eff d e).mm=(s.eff d e).mm:=by cases e<;>cases d<;>simp [St.eff,St.put,h]
theorem zK0 (s s1:St) (hm:s1.mm=s.mm) (h:∀t,lk s1.tm t=lk s.tm t) (d:Option Nat) (e:Eff) (t:Nat):lk (s1.eff d e).tm t=lk (s.eff d e).tm t:=by
 cases e<;>cases d<;>simp [St.eff,St.put,zbz,h,hm]
theorem zH8 {T:List (TyE P)} {Es:List (Ent P)} {s:St} {o:Oper} {b:Nat} {cs:List V} (h:effG R T Es s o=some (.st b cs)):zBF T Es s o=some (.st b cs):=by
 unfold effG at h
 split at h
 ·exact h
 ·cases h
 ·cases h
theorem zMP {c:Bool} {X:Option (List V)} {n b:Nat} {cs:List V} (h:(bif c then (match X with
  | some cs=>some (Eff.new (n,cs))
  | none=>none) else none)=some (Eff.st b cs)):False:=by
 cases c<;>cases X<;>simp at h
theorem zEN {T:List (TyE P)} {Es:List (Ent P)} {s:St} {o:Oper} {b:Nat} {cs:List V} (h:zBF T Es s o=some (.st b cs)):b<s.mm.nxt:=by
 unfold zBF at h
 split at h
 ·rename_i g v _
  cases g<;>cases h
 split at h
 ·rename_i q cs' _
  cases hq:Nat.beq q 1000001<;>simp [hq] at h
 split at h
 ·rename_i g cs' _
  cases g<;>simp at h
 unfold zBE at h
 split at h
 ·split at h<;>cases h
 ·split at h<;>cases h
 ·split at h<;>try (cases h;done)
  rename_i e b' off v he hx hv
  cases hb:(Nat.beq v.cells.length e.size&&Nat.blt b' s.mm.nxt) with
  | false=>simp [hb] at h
  | true=>
   simp only [hb,cond_true] at h
   split at h<;>try (cases h;done)
   split at h<;>try (cases h;done)
   cases h
   simp only [Bool.and_eq_true] at hb
   simpa using hb.2
 ·split at h<;>try (cases h;done)
  split at h<;>try (cases h;done)
  split at h<;>try (cases h;done)
  exact (zMP h).elim
 ·split at h<;>cases h
theorem zEP {T:List (TyE P)} {Es:List (Ent P)}:∀ {os:List Oper} {s s':St} {es:List Eff},zpb R T Es os s=some (es,s')->∀(i:Nat) (o:Oper) (e:Eff),os[i]?=some o->es[i]?=some e->
  ∃si:St,Know os es s si i/\(idE s.mm.nxt es)[i]?=some si.mm.nxt/\si.fits o.dst=true/\effG R T Es si o=some e
 | [],s,s',es,h,i,o,e,h1,h2=>by simp at h1
 | a::os,s,s',es,h,i,o,e,h1,h2=>by
  simp only [zpb] at h
  cases hf:s.fits a.dst with
  | false=>simp [hf] at h
  | true=>
   simp only [hf,cond_true] at h
   split at h<;>try (cases h;done)
   rename_i ea hea
   split at h<;>try (cases h;done)
   rename_i es' s'' hr
   simp only [Option.some.injEq,Prod.mk.injEq] at h
   obtain ⟨rfl,rfl⟩:=h
   have hn:=St.kn_n (R:=R) s a
   have hm:=St.kn_mm (R:=R) s a
   have ht:=St.kn_lk (R:=R) s a
   cases i with
   | zero=>
    simp at h1 h2;subst h1;subst h2
    refine ⟨s.kn R a,⟨hn,by rw [hm],fun t v h=> .inr ⟨fun i o _ hi=>absurd hi (Nat.not_lt_zero _),by rw [<- ht];exact h⟩,fun b cs h=> .inr ⟨fun i cs' hi=>absurd hi (Nat.not_lt_zero _),.inr (by rw [<- hm];exact h)⟩⟩,by rw [hm];cases ea<;>simp [idE],?_,hea⟩
    cases hd:a.dst with
    | none=>rfl
    | some d=>rw [hd] at hf;simpa [St.fits,hn] using hf
   | succ i=>
    obtain ⟨si,k1,k2,k3,k4⟩:=zEP hr i o e (by simpa using h1) (by simpa using h2)
    have k1':Know os es' (s.eff a.dst ea) si i:=k1.congr (zN7 s _ hn a.dst ea) (zEM s _ hm a.dst ea) (zK0 s _ hm ht a.dst ea)
    rw [zEM s _ hm a.dst ea] at k2
    refine ⟨si,k1'.succ (fun b cs hb=>?_),?_,k3,k4⟩
    ·have:=zEN (zH8 (hb▸hea));rwa [hm] at this
    ·cases ea<;>cases hd:a.dst<;>simp only [hd,St.eff,St.put,Mem.new] at k2<;>simpa [idE] using k2
theorem zv4 {T:List (TyE P)} {Es:List (Ent P)}:∀ {os:List Oper} {s s':St} {es:List Eff},zpb R T Es os s=some (es,s')->
  Know os es s s' os.length/\s.mm.nxt<=s'.mm.nxt/\(∀(i b:Nat),(∃c:Nat×List V,es[i]?=some (Eff.new c))->(idE s.mm.nxt es)[i]?=some b->b<s'.mm.nxt)
 | [],s,s',es,h=>by
  simp [zpb] at h
  obtain ⟨rfl,rfl⟩:=h
  exact ⟨Know.zero,Nat.le_refl _,fun i b h=>by simp at h⟩
 | a::os,s,s',es,h=>by
  simp only [zpb] at h
  cases hf:s.fits a.dst with
  | false=>simp [hf] at h
  | true=>
   simp only [hf,cond_true] at h
   split at h<;>try (cases h;done)
   rename_i ea hea
   split at h<;>try (cases h;done)
   rename_i es' s'' hr
   simp only [Option.some.injEq,Prod.mk.injEq] at h
   obtain ⟨rfl,rfl⟩:=h
   have hn:=St.kn_n (R:=R) s a
   have hm:=St.kn_mm (R:=R) s a
   have ht:=St.kn_lk (R:=R) s a
   obtain ⟨k1,k2,k3⟩:=zv4 hr
   have k1':Know os es' (s.eff a.dst ea) s'' os.length:=k1.congr (zN7 s _ hn a.dst ea) (zEM s _ hm a.dst ea) (zK0 s _ hm ht a.dst ea)
   rw [zEM s _ hm a.dst ea] at k2 k3
   have hle:s.mm.nxt<=(s.eff a.dst ea).mm.nxt:=by cases ea<;>cases hd:a.dst<;>simp [St.eff,St.put,Mem.new]
   refine ⟨k1'.succ (fun b cs hb=>?_),Nat.le_trans hle k2,fun i b hc hb=>?_⟩
   ·have:=zEN (zH8 (hb▸hea));rwa [hm] at this
   cases i with
   | zero=>
    obtain ⟨c,hc⟩:=hc
    simp at hc;subst hc
    simp [idE] at hb;subst hb
    cases hd:a.dst<;>simp only [hd,St.eff,St.put,Mem.new] at k2<;>omega
   | succ i=>
    refine k3 i b (by simpa using hc) ?_
    cases ea<;>cases hd:a.dst<;>simp only [hd,St.eff,St.put,Mem.new]<;>simpa [idE] using hb
def Loc (ρ:Nat->Option Nat) (w:World) (b:Nat) (cs:List V):Prop:=
 ∃r xs t,ρ b=some r/\w.heap[r]?=some (.cells xs.toArray t (0,0))/\VRs ρ cs xs
def exL (listed:Array Bool) (k:Nat):Prop:=listed.getD k false=true
structure DS (ops:List Oper) (es:List Eff) (s:St) (N:Nat) (w0:World) (ρ0:Nat->Option Nat) (listed:Array Bool) (ρ:Nat->Option Nat) (a:Act) (w:World):Prop where
 sz:a.tmps.size=s.n
 df:a.defers= []
 ext:Ext ρ0 ρ
 tm:∀t v,TM ops (valE s.mm.nxt es) s.tm (exL listed) t v->∃x,a.tmps[t]?=some x/\VR ρ v x
 mm:∀b cs,CM es (idE s.mm.nxt es) s.mm.blks (exL listed) b cs->(b<s.mm.nxt\/∃i c,exL listed i/\es[i]?=some (.new c)/\(idE s.mm.nxt es)[i]?=some b)->Loc ρ w b cs
 inj:∀b b' r,ρ b=some r->ρ b'=some r->b=b'
 dom:∀b r,ρ b=some r->r<w.heap.size
 own:∀b r,s.mm.lo<=b->ρ b=some r->w0.heap.size<=r
 bel:Below w0.heap.size w0 w
 fr:∀b r,ρ b=some r->b<s.mm.nxt\/∃i c,exL listed i/\es[i]?=some (.new c)/\(idE s.mm.nxt es)[i]?=some b
 lsz:listed.size=ops.length
 cl:∀k o,ops[k]?=some o->exL listed k->∀e∈o.after,Region.binds .any e=true->exL listed e.on
 stx:∀k b cs,exL listed k->es[k]?=some (.st b cs)->∃r,ρ b=some r
 ini:∀b cs,lk s.mm.blks b=some cs->∃r,ρ0 b=some r
 lon:s.mm.lo<=s.mm.nxt
 am:∀w',Below w0.heap.size w0 w'->Amb.I w'/\Inv0 w'
theorem zct {listed:Array Bool} {i k:Nat} (hi:i<listed.size):exL (listed.setIfInBounds i true) k↔k=i\/exL listed k:=by
 unfold exL
 by_cases h:i=k
 ·subst h;simp [hi]
 ·rw [getD_set_ne false h];simp [show ¬k=i from fun e=>h e.symm]
section step
variable {ops:List Oper} {es:List Eff} {s:St} {N:Nat} {w0:World} {ρ0:Nat->Option Nat} {listed:Array Bool} {ρ:Nat->Option Nat} {a:Act} {w:World} {i:Nat} {o:Oper} {e:Eff}
theorem zrP (hl:linked o i=true) (h:∀e∈o.after,Region.binds .any e=true->exL listed e.on):exL listed i:=by
 unfold linked at hl
 rw [List.any_eq_true] at hl
 obtain ⟨ed,h1,h2⟩:=hl
 simp only [Bool.and_eq_true] at h2
 have:=h ed (by simpa using h1) h2.2
 rwa [Nat.eq_of_beq_eq_true h2.1] at this
theorem zrH {i:Nat} {a b:Oper} {ea eb:Eff} (h:zrJ R i a ea b eb=true) (hc:zxA R a b ea eb=true):linked b i=true:=by
 simp only [zrJ,Bool.and_eq_true,Bool.or_eq_true,Bool.not_eq_true'] at h
 rcases h.2 with h|h
 ·rw [hc] at h;cases h
 ·exact h
theorem zEa {i:Nat} {a b:Oper} {ea eb:Eff} {t:Nat} (h:zrJ R i a ea b eb=true) (h1:a.dst=some t) (h2:b.dst=some t):False:=by
 simp only [zrJ,Bool.and_eq_true,Bool.not_eq_true'] at h
 have:=h.1
 simp [clash,h1,h2] at this
theorem zzz {i:Nat} {a b:Oper} {x:Nat} {c c':List V} (h:zrJ R i a (.st x c) b (.st x c')=true):False:=by
 simp only [zrJ,Bool.and_eq_true,Bool.not_eq_true'] at h
 have:=h.1
 simp [clash] at this
theorem zEd (hall:znZ R 0 ops es=true) (hlen:es.length=ops.length) (hD:DS ops es s N w0 ρ0 listed ρ a w) (ho:ops[i]?=some o) (he:es[i]?=some e)
  (hun:listed.getD i true=false) (hed:∀e∈o.after,Region.binds .any e=true->exL listed e.on):¬exL listed i:=by
 have hlt:i<listed.size:=by rw [hD.lsz];exact (List.getElem?_eq_some_iff.1 ho).1
 unfold exL
 simp [hlt] at hun ⊢
 simpa using hun
theorem zC1 (hall:znZ R 0 ops es=true) (hlen:es.length=ops.length) (hD:DS ops es s N w0 ρ0 listed ρ a w) (ho:ops[i]?=some o) (he:es[i]?=some e)
  (hun:listed.getD i true=false) (hed:∀e∈o.after,Region.binds .any e=true->exL listed e.on) {t:Nat} {v:V} (ht:t∈zmA R o) (hv:TM ops (valE s.mm.nxt es) s.tm (· < i) t v):TM ops (valE s.mm.nxt es) s.tm (exL listed) t v:=by
 have hne:=zEd hall hlen hD ho he hun hed
 rcases hv with ⟨j,oj,h1,h2,h3,h4⟩|⟨h1,h2⟩
 ·obtain ⟨ej,hej⟩:∃ej,es[j]?=some ej:=by
   have:j<es.length:=by rw [hlen];exact (List.getElem?_eq_some_iff.1 h1).1
   exact ⟨_,List.getElem?_eq_getElem this⟩
  have hp:=zh5 hall j i h2 h1 hej ho he
  rw [Nat.zero_add] at hp
  have hc:zxA R oj o ej e=true:=by
   have:hasN (zmA R o) t=true:=zEF.2 ht
   simp [zxA,meets,h3,this]
  exact .inl ⟨j,oj,h1,zrP (zrH hp hc) hed,h3,h4⟩
 ·refine .inr ⟨fun k ok hk hex hd=>?_,h2⟩
  rcases Nat.lt_trichotomy k i with hlt|rfl|hgt
  ·exact h1 k ok hk hlt hd
  ·exact hne hex
  ·obtain ⟨ek,hek⟩:∃ek,es[k]?=some ek:=by
    have:k<es.length:=by rw [hlen];exact (List.getElem?_eq_some_iff.1 hk).1
    exact ⟨_,List.getElem?_eq_getElem this⟩
   have hp:=zh5 hall i k hgt ho he hk hek
   rw [Nat.zero_add] at hp
   have hc:zxA R o ok e ek=true:=by
    have:hasN (zmA R o) t=true:=zEF.2 ht
    simp [zxA,meets,hd,this]
   exact hne (zrP (zrH hp hc) (hD.cl k ok hk hex))
theorem zC2 (hall:znZ R 0 ops es=true) (hlen:es.length=ops.length) (hD:DS ops es s N w0 ρ0 listed ρ a w) (ho:ops[i]?=some o) (he:es[i]?=some e)
  (hun:listed.getD i true=false) (hed:∀e∈o.after,Region.binds .any e=true->exL listed e.on) {b:Nat} {cs:List V} (hk:(∃v l,e= .val v l/\hasN l b=true)\/∃c,e= .st b c) (hc:CM es (idE s.mm.nxt es) s.mm.blks (· < i) b cs)
  (hb:b<s.mm.nxt\/∃i c,exL listed i/\es[i]?=some (.new c)/\(idE s.mm.nxt es)[i]?=some b):CM es (idE s.mm.nxt es) s.mm.blks (exL listed) b cs:=by
 have hne:=zEd hall hlen hD ho he hun hed
 have getO:∀ {j ej},es[j]?=some ej->∃oj,ops[j]?=some oj:=fun {j ej} h=>by
  have:j<ops.length:=by rw [<- hlen];exact (List.getElem?_eq_some_iff.1 h).1
  exact ⟨_,List.getElem?_eq_getElem this⟩
 rcases hc with ⟨j,h1,h2⟩|⟨h1,h2⟩
 ·obtain ⟨oj,hoj⟩:=getO h2
  have hp:=zh5 hall j i h1 hoj h2 ho he
  rw [Nat.zero_add] at hp
  rcases hk with ⟨v,l,rfl,hl⟩|⟨c,rfl⟩
  ·have hcf:zxA R oj o (.st b cs) (.val v l)=true:=by simp [zxA,hits,hl]
   exact .inl ⟨j,zrP (zrH hp hcf) hed,h2⟩
  ·exact (zzz hp).elim
 ·refine .inr ⟨fun k cs' hex hst=>?_,?_⟩
  ·obtain ⟨ok,hok⟩:=getO hst
   rcases Nat.lt_trichotomy k i with hlt|rfl|hgt
   ·exact h1 k cs' hlt hst
   ·exact hne hex
   ·have hp:=zh5 hall i k hgt ho he hok hst
    rw [Nat.zero_add] at hp
    rcases hk with ⟨v,l,rfl,hl⟩|⟨c,rfl⟩
    ·have hcf:zxA R o ok (.val v l) (.st b cs')=true:=by simp [zxA,hits,hl]
     exact hne (zrP (zrH hp hcf) (hD.cl k ok hok hex))
    ·exact (zzz hp).elim
  ·rcases h2 with ⟨j,q,h3,h4,h5⟩|h2
   ·rcases hb with hb|⟨i',c,h6,h7,h8⟩
    ·have:=zyc _ _ _ _ h5;omega
    ·have:=zvV _ _ _ _ _ _ _ h4 h7 h5 h8
     subst this
     exact .inl ⟨j,q,h6,h4,h5⟩
   ·exact .inr h2
theorem zyV (hall:znZ R 0 ops es=true) (hlen:es.length=ops.length) (hD:DS ops es s N w0 ρ0 listed ρ a w) (ho:ops[i]?=some o) (he:es[i]?=some e)
  (hun:listed.getD i true=false) (hed:∀e∈o.after,Region.binds .any e=true->exL listed e.on) {ρ':Nat->Option Nat} {v:V} {x:Value} (hv:(valE s.mm.nxt es)[i]?=some v) (e':Ext ρ ρ') (hx:VR ρ' v x) (hf:∀d,o.dst=some d->d<s.n):
  ∀t u,TM ops (valE s.mm.nxt es) s.tm (exL (listed.setIfInBounds i true)) t u->∃y,(a.put o.dst x).tmps[t]?=some y/\VR ρ' u y:=by
 have hlt:i<listed.size:=by rw [hD.lsz];exact (List.getElem?_eq_some_iff.1 ho).1
 have hput:∀t,o.dst≠some t->(a.put o.dst x).tmps[t]?=a.tmps[t]?:=fun t ht=>by
  cases hd:o.dst with
  | none=>rfl
  | some d=>simp only [Act.put];rw [Array.getElem?_setIfInBounds_ne (fun h=>ht (by rw [hd,h]))]
 have hnew:∀t,o.dst=some t->(a.put o.dst x).tmps[t]?=some x:=fun t ht=>by
  have:=hf t ht
  rw [ht];simp [Act.put,hD.sz,this]
 intro t u hu
 by_cases hd:o.dst=some t
 ·refine ⟨x,hnew t hd,?_⟩
  rcases hu with ⟨k,ok,h1,h2,h3,h4⟩|⟨h1,h2⟩
  ·by_cases hki:k=i
   ·subst hki
    rw [hv] at h4;cases h4;exact hx
   ·exfalso
    obtain ⟨ek,hek⟩:∃ek,es[k]?=some ek:=by
     have:k<es.length:=by rw [hlen];exact (List.getElem?_eq_some_iff.1 h1).1
     exact ⟨_,List.getElem?_eq_getElem this⟩
    rcases Nat.lt_or_gt_of_ne hki with hlt'|hgt
    ·have hp:=zh5 hall k i hlt' h1 hek ho he;exact zEa hp h3 hd
    ·have hp:=zh5 hall i k hgt ho he h1 hek;exact zEa hp hd h3
  ·exact absurd hd (h1 i o ho ((zct hlt).2 (.inl rfl)))
 ·have htm:TM ops (valE s.mm.nxt es) s.tm (exL listed) t u:=by
   rcases hu with ⟨k,ok,h1,h2,h3,h4⟩|⟨h1,h2⟩
   ·rcases (zct hlt).1 h2 with rfl|h2
    ·rw [ho] at h1;cases h1;exact absurd h3 hd
    ·exact .inl ⟨k,ok,h1,h2,h3,h4⟩
   ·exact .inr ⟨fun k ok h3 h4=>h1 k ok h3 ((zct hlt).2 (.inr h4)),h2⟩
  obtain ⟨y,h1,h2⟩:=hD.tm t u htm
  exact ⟨y,by rw [hput t hd];exact h1,h2.mono e'⟩
theorem zyW (hall:znZ R 0 ops es=true) (hlen:es.length=ops.length) (hD:DS ops es s N w0 ρ0 listed ρ a w) (ho:ops[i]?=some o) (he:es[i]?=some e)
  (hun:listed.getD i true=false) (hed:∀e∈o.after,Region.binds .any e=true->exL listed e.on):(∀k o,ops[k]?=some o->exL (listed.setIfInBounds i true) k->∀e∈o.after,Region.binds .any e=true->exL (listed.setIfInBounds i true) e.on):=by
 have hlt:i<listed.size:=by rw [hD.lsz];exact (List.getElem?_eq_some_iff.1 ho).1
 intro k ok hk hex ed h1 h2
 refine (zct hlt).2 (.inr ?_)
 rcases (zct hlt).1 hex with rfl|hex
 ·rw [ho] at hk;cases hk;exact hed ed h1 h2
 ·exact hD.cl k ok hk hex ed h1 h2
theorem DS.val (hall:znZ R 0 ops es=true) (hlen:es.length=ops.length) (hD:DS ops es s N w0 ρ0 listed ρ a w) (ho:ops[i]?=some o) (he:es[i]?=some e)
  (hun:listed.getD i true=false) (hed:∀e∈o.after,Region.binds .any e=true->exL listed e.on) {v:V} {rd:List Nat} {x:Value} {w':World} (hev:e= .val v rd) (hv:(valE s.mm.nxt es)[i]?=some v) (hx:VR ρ v x) (hf:∀d,o.dst=some d->d<s.n) (hb:Below w.heap.size w w'):
  DS ops es s N w0 ρ0 (listed.setIfInBounds i true) ρ (a.put o.dst x) w':=by
 have hlt:i<listed.size:=by rw [hD.lsz];exact (List.getElem?_eq_some_iff.1 ho).1
 have old:∀b,(b<s.mm.nxt\/∃i' c,exL (listed.setIfInBounds i true) i'/\es[i']?=some (.new c)/\(idE s.mm.nxt es)[i']?=some b)->
   (b<s.mm.nxt\/∃i' c,exL listed i'/\es[i']?=some (.new c)/\(idE s.mm.nxt es)[i']?=some b):=by
  rintro b (h|⟨i',c,h1,h2,h3⟩)
  ·exact .inl h
  ·rcases (zct hlt).1 h1 with rfl|h1
   ·rw [he,hev] at h2;cases h2
   ·exact .inr ⟨i',c,h1,h2,h3⟩
 refine ⟨by cases hd:o.dst<;>simp [Act.put,hD.sz],by cases hd:o.dst<;>exact hD.df,hD.ext,zyV hall hlen hD ho he hun hed hv (Ext.refl _) hx hf,fun b cs hc hbb=>?_,hD.inj,
  fun b r hr=>Nat.lt_of_lt_of_le (hD.dom b r hr) hb.size,hD.own,hD.bel.trans (hb.mono hD.bel.size),fun b r hr=>?_,by simp [hD.lsz],zyW hall hlen hD ho he hun hed,fun k b cs h1 h2=>?_,hD.ini,hD.lon,hD.am⟩
 ·have hc':CM es (idE s.mm.nxt es) s.mm.blks (exL listed) b cs:=by
   rcases hc with ⟨k,h1,h2⟩|⟨h1,h2⟩
   ·rcases (zct hlt).1 h1 with rfl|h1
    ·rw [he,hev] at h2;cases h2
    ·exact .inl ⟨k,h1,h2⟩
   ·refine .inr ⟨fun k cs' h3=>h1 k cs' ((zct hlt).2 (.inr h3)),?_⟩
    rcases h2 with ⟨k,q,h3,h4,h5⟩|h2
    ·rcases (zct hlt).1 h3 with rfl|h3
     ·rw [he,hev] at h4;cases h4
     ·exact .inl ⟨k,q,h3,h4,h5⟩
    ·exact .inr h2
  obtain ⟨r,xs,t,h1,h2,h3⟩:=hD.mm b cs hc' (old b hbb)
  exact ⟨r,xs,t,h1,by rw [hb.block r (hD.dom b r h1)];exact h2,h3⟩
 ·rcases hD.fr b r hr with h|⟨i',c,h1,h2,h3⟩
  ·exact .inl h
  ·exact .inr ⟨i',c,(zct hlt).2 (.inr h1),h2,h3⟩
 ·rcases (zct hlt).1 h1 with rfl|h1
  ·rw [he,hev] at h2;cases h2
  ·exact hD.stx k b cs h1 h2
theorem DS.new (hall:znZ R 0 ops es=true) (hlen:es.length=ops.length) (hD:DS ops es s N w0 ρ0 listed ρ a w) (ho:ops[i]?=some o) (he:es[i]?=some e)
  (hun:listed.getD i true=false) (hed:∀e∈o.after,Region.binds .any e=true->exL listed e.on) {q:Nat} {c:List V} {xs:List Value} {ty:TypeId} {b0:Nat} {xv:Value} (hev:e= .new (q,c)) (hid:(idE s.mm.nxt es)[i]?=some b0) (hv:(valE s.mm.nxt es)[i]?=some (zrj b0 q)) (hxv:∀ρ':Nat->Option Nat,ρ' b0=some w.heap.size->VR ρ' (zrj b0 q) xv) (hc:VRs ρ c xs) (hf:∀d,o.dst=some d->d<s.n):
  ∃ρ',DS ops es s N w0 ρ0 (listed.setIfInBounds i true) ρ' (a.put o.dst xv) (w.alloc (.cells xs.toArray ty (0,0))):=by
 have hlt:i<listed.size:=by rw [hD.lsz];exact (List.getElem?_eq_some_iff.1 ho).1
 have hne:=zEd hall hlen hD ho he hun hed
 have hge:=zyc _ _ _ _ hid
 have hn:ρ b0=none:=by
  cases hr:ρ b0 with
  | none=>rfl
  | some r=>
   exfalso
   rcases hD.fr b0 r hr with h|⟨i',c',h1,h2,h3⟩
   ·omega
   ·have:=zvV _ _ _ _ _ _ _ h2 (hev▸he) h3 hid
    subst this;exact hne h1
 have e':Ext ρ (fun b=>if b=b0 then some w.heap.size else ρ b):=fun b r hr=>by
  have:b≠b0:=fun hb=>by rw [hb,hn] at hr;cases hr
  simp [this,hr]
 have hself:(fun b=>if b=b0 then some w.heap.size else ρ b) b0=some w.heap.size:=by simp
 refine ⟨_,by cases hd:o.dst<;>simp [Act.put,hD.sz],by cases hd:o.dst<;>exact hD.df,hD.ext.trans e',zyV hall hlen hD ho he hun hed hv e' (hxv _ hself) hf,fun b cs hcm hbb=>?_,?_,?_,?_,
  hD.bel.alloc hD.bel.size _,fun b r hr=>?_,by simp [hD.lsz],zyW hall hlen hD ho he hun hed,fun k b cs h1 h2=>?_,hD.ini,hD.lon,hD.am⟩
 ·by_cases hb:b=b0
  ·subst hb
   have hcs:cs=c:=by
    rcases hcm with ⟨k,h1,h2⟩|⟨h1,h2⟩
    ·exfalso
     rcases (zct hlt).1 h1 with rfl|h1
     ·rw [he,hev] at h2;cases h2
     ·obtain ⟨r,hr⟩:=hD.stx k _ _ h1 h2
      rw [hn] at hr;cases hr
    ·rcases h2 with ⟨k,q,h3,h4,h5⟩|h2
     ·have:=zvV _ _ _ _ _ _ _ h4 (hev▸he) h5 hid
      subst this;rw [he,hev] at h4;cases h4;rfl
     ·obtain ⟨r,hr⟩:=hD.ini _ _ h2
      have:=hD.ext _ _ hr
      rw [hn] at this;cases this
   subst hcs
   exact ⟨w.heap.size,xs,ty,hself,heap_alloc_new w _,hc.mono e'⟩
  ·have hcm':CM es (idE s.mm.nxt es) s.mm.blks (exL listed) b cs:=by
    rcases hcm with ⟨k,h1,h2⟩|⟨h1,h2⟩
    ·rcases (zct hlt).1 h1 with rfl|h1
     ·rw [he,hev] at h2;cases h2
     ·exact .inl ⟨k,h1,h2⟩
    ·refine .inr ⟨fun k cs' h3=>h1 k cs' ((zct hlt).2 (.inr h3)),?_⟩
     rcases h2 with ⟨k,q,h3,h4,h5⟩|h2
     ·rcases (zct hlt).1 h3 with rfl|h3
      ·rw [hid] at h5;cases h5;exact absurd rfl hb
      ·exact .inl ⟨k,q,h3,h4,h5⟩
     ·exact .inr h2
   have hbb':b<s.mm.nxt\/∃i' c,exL listed i'/\es[i']?=some (.new c)/\(idE s.mm.nxt es)[i']?=some b:=by
    rcases hbb with h|⟨i',c',h1,h2,h3⟩
    ·exact .inl h
    ·rcases (zct hlt).1 h1 with rfl|h1
     ·rw [hid] at h3;cases h3;exact absurd rfl hb
     ·exact .inr ⟨i',c',h1,h2,h3⟩
   obtain ⟨r,ys,t,h1,h2,h3⟩:=hD.mm b cs hcm' hbb'
   exact ⟨r,ys,t,e' _ _ h1,by rw [Below.heap_alloc _ _ _ (hD.dom b r h1)];exact h2,h3.mono e'⟩
 ·intro b b' r h1 h2
  split at h1<;>split at h2
  ·simp_all
  ·cases h1;have:=hD.dom b' _ h2;omega
  ·cases h2;have:=hD.dom b _ h1;omega
  ·exact hD.inj b b' r h1 h2
 ·intro b r hr
  rw [World.size_alloc]
  split at hr
  ·cases hr;omega
  ·have:=hD.dom b r hr;omega
 ·intro b r hb hr
  split at hr
  ·cases hr;exact hD.bel.size
  ·exact hD.own b r hb hr
 ·split at hr
  ·rename_i hb;subst hb
   exact .inr ⟨i,(q,c),(zct hlt).2 (.inl rfl),hev▸he,hid⟩
  ·rcases hD.fr b r hr with h|⟨i',c',h1,h2,h3⟩
   ·exact .inl h
   ·exact .inr ⟨i',c',(zct hlt).2 (.inr h1),h2,h3⟩
 ·rcases (zct hlt).1 h1 with rfl|h1
  ·rw [he,hev] at h2;cases h2
  ·obtain ⟨r,hr⟩:=hD.stx k b cs h1 h2
   exact ⟨r,e' _ _ hr⟩
theorem DS.newW (hall:znZ R 0 ops es=true) (hlen:es.length=ops.length) (hD:DS ops es s N w0 ρ0 listed ρ a w) (ho:ops[i]?=some o) (he:es[i]?=some e)
  (hun:listed.getD i true=false) (hed:∀e∈o.after,Region.binds .any e=true->exL listed e.on) {q:Nat} {c:List V} {xs:List Value} {ty:TypeId} {b0:Nat} {xv:Value} (hev:e= .new (q,c)) (hid:(idE s.mm.nxt es)[i]?=some b0) (hv:(valE s.mm.nxt es)[i]?=some (zrj b0 q)) {r0:Nat} {w':World} (hr0:w.heap.size<=r0) (hw:w'.heap[r0]?=some (.cells xs.toArray ty (0,0))) (hbl:Below w.heap.size w w') (hxv:∀ρ':Nat->Option Nat,ρ' b0=some r0->VR ρ' (zrj b0 q) xv) (hc:VRs ρ c xs) (hf:∀d,o.dst=some d->d<s.n):
  ∃ρ',DS ops es s N w0 ρ0 (listed.setIfInBounds i true) ρ' (a.put o.dst xv) w':=by
 have hlt0:r0<w'.heap.size:=(Array.getElem?_eq_some_iff.1 hw).1
 have hlt:i<listed.size:=by rw [hD.lsz];exact (List.getElem?_eq_some_iff.1 ho).1
 have hne:=zEd hall hlen hD ho he hun hed
 have hge:=zyc _ _ _ _ hid
 have hn:ρ b0=none:=by
  cases hr:ρ b0 with
  | none=>rfl
  | some r=>
   exfalso
   rcases hD.fr b0 r hr with h|⟨i',c',h1,h2,h3⟩
   ·omega
   ·have:=zvV _ _ _ _ _ _ _ h2 (hev▸he) h3 hid
    subst this;exact hne h1
 have e':Ext ρ (fun b=>if b=b0 then some r0 else ρ b):=fun b r hr=>by
  have:b≠b0:=fun hb=>by rw [hb,hn] at hr;cases hr
  simp [this,hr]
 have hself:(fun b=>if b=b0 then some r0 else ρ b) b0=some r0:=by simp
 refine ⟨_,by cases hd:o.dst<;>simp [Act.put,hD.sz],by cases hd:o.dst<;>exact hD.df,hD.ext.trans e',zyV hall hlen hD ho he hun hed hv e' (hxv _ hself) hf,fun b cs hcm hbb=>?_,?_,?_,?_,
  hD.bel.trans (hbl.mono hD.bel.size),fun b r hr=>?_,by simp [hD.lsz],zyW hall hlen hD ho he hun hed,fun k b cs h1 h2=>?_,hD.ini,hD.lon,hD.am⟩
 ·by_cases hb:b=b0
  ·subst hb
   have hcs:cs=c:=by
    rcases hcm with ⟨k,h1,h2⟩|⟨h1,h2⟩
    ·exfalso
     rcases (zct hlt).1 h1 with rfl|h1
     ·rw [he,hev] at h2;cases h2
     ·obtain ⟨r,hr⟩:=hD.stx k _ _ h1 h2
      rw [hn] at hr;cases hr
    ·rcases h2 with ⟨k,q,h3,h4,h5⟩|h2
     ·have:=zvV _ _ _ _ _ _ _ h4 (hev▸he) h5 hid
      subst this;rw [he,hev] at h4;cases h4;rfl
     ·obtain ⟨r,hr⟩:=hD.ini _ _ h2
      have:=hD.ext _ _ hr
      rw [hn] at this;cases this
   subst hcs
   exact ⟨r0,xs,ty,hself,hw,hc.mono e'⟩
  ·have hcm':CM es (idE s.mm.nxt es) s.mm.blks (exL listed) b cs:=by
    rcases hcm with ⟨k,h1,h2⟩|⟨h1,h2⟩
    ·rcases (zct hlt).1 h1 with rfl|h1
     ·rw [he,hev] at h2;cases h2
     ·exact .inl ⟨k,h1,h2⟩
    ·refine .inr ⟨fun k cs' h3=>h1 k cs' ((zct hlt).2 (.inr h3)),?_⟩
     rcases h2 with ⟨k,q,h3,h4,h5⟩|h2
     ·rcases (zct hlt).1 h3 with rfl|h3
      ·rw [hid] at h5;cases h5;exact absurd rfl hb
      ·exact .inl ⟨k,q,h3,h4,h5⟩
     ·exact .inr h2
   have hbb':b<s.mm.nxt\/∃i' c,exL listed i'/\es[i']?=some (.new c)/\(idE s.mm.nxt es)[i']?=some b:=by
    rcases hbb with h|⟨i',c',h1,h2,h3⟩
    ·exact .inl h
    ·rcases (zct hlt).1 h1 with rfl|h1
     ·rw [hid] at h3;cases h3;exact absurd rfl hb
     ·exact .inr ⟨i',c',h1,h2,h3⟩
   obtain ⟨r,ys,t,h1,h2,h3⟩:=hD.mm b cs hcm' hbb'
   exact ⟨r,ys,t,e' _ _ h1,by rw [hbl.block r (hD.dom b r h1)];exact h2,h3.mono e'⟩
 ·intro b b' r h1 h2
  split at h1<;>split at h2
  ·simp_all
  ·cases h1;have:=hD.dom b' _ h2;omega
  ·cases h2;have:=hD.dom b _ h1;omega
  ·exact hD.inj b b' r h1 h2
 ·intro b r hr
  have hs:=hbl.size
  split at hr
  ·cases hr;exact hlt0
  ·have:=hD.dom b r hr;omega
 ·intro b r hb hr
  split at hr
  ·cases hr;exact Nat.le_trans hD.bel.size hr0
  ·exact hD.own b r hb hr
 ·split at hr
  ·rename_i hb;subst hb
   exact .inr ⟨i,(q,c),(zct hlt).2 (.inl rfl),hev▸he,hid⟩
  ·rcases hD.fr b r hr with h|⟨i',c',h1,h2,h3⟩
   ·exact .inl h
   ·exact .inr ⟨i',c',(zct hlt).2 (.inr h1),h2,h3⟩
 ·rcases (zct hlt).1 h1 with rfl|h1
  ·rw [he,hev] at h2;cases h2
  ·obtain ⟨r,hr⟩:=hD.stx k b cs h1 h2
   exact ⟨r,e' _ _ hr⟩
theorem DS.st (hall:znZ R 0 ops es=true) (hlen:es.length=ops.length) (hD:DS ops es s N w0 ρ0 listed ρ a w) (ho:ops[i]?=some o) (he:es[i]?=some e)
  (hun:listed.getD i true=false) (hed:∀e∈o.after,Region.binds .any e=true->exL listed e.on) {b0:Nat} {c:List V} {r0:Nat} {w':World} (hev:e= .st b0 c) (hv:(valE s.mm.nxt es)[i]?=some (.tup [])) (hr0:ρ b0=some r0)
  (hold:∀k,k≠r0->w'.heap[k]?=w.heap[k]?) (hsz:w'.heap.size=w.heap.size) (hbel:Below w0.heap.size w0 w') (hloc:Loc ρ w' b0 c) (hf:∀d,o.dst=some d->d<s.n):
  DS ops es s N w0 ρ0 (listed.setIfInBounds i true) ρ (a.put o.dst undef) w':=by
 have hlt:i<listed.size:=by rw [hD.lsz];exact (List.getElem?_eq_some_iff.1 ho).1
 refine ⟨by cases hd:o.dst<;>simp [Act.put,hD.sz],by cases hd:o.dst<;>exact hD.df,hD.ext,zyV hall hlen hD ho he hun hed hv (Ext.refl _) (.tup (xs:= []) .nil) hf,fun b cs hcm hbb=>?_,hD.inj,
  fun b r hr=>by rw [hsz];exact hD.dom b r hr,hD.own,hbel,fun b r hr=>?_,by simp [hD.lsz],zyW hall hlen hD ho he hun hed,fun k b cs h1 h2=>?_,hD.ini,hD.lon,hD.am⟩
 ·by_cases hb:b=b0
  ·subst hb
   have hcs:cs=c:=by
    rcases hcm with ⟨k,h1,h2⟩|⟨h1,h2⟩
    ·by_cases hki:k=i
     ·subst hki;rw [he,hev] at h2;cases h2;rfl
     ·exfalso
      obtain ⟨ok,hok⟩:∃ok,ops[k]?=some ok:=by
       have:k<ops.length:=by rw [<- hlen];exact (List.getElem?_eq_some_iff.1 h2).1
       exact ⟨_,List.getElem?_eq_getElem this⟩
      rcases Nat.lt_or_gt_of_ne hki with hlt'|hgt
      ·have hp:=zh5 hall k i hlt' hok h2 ho (hev▸he);exact zzz hp
      ·have hp:=zh5 hall i k hgt ho (hev▸he) hok h2;exact zzz hp
    ·exact absurd (hev▸he) (h1 i c ((zct hlt).2 (.inl rfl)))
   subst hcs
   exact hloc
  ·have hcm':CM es (idE s.mm.nxt es) s.mm.blks (exL listed) b cs:=by
    rcases hcm with ⟨k,h1,h2⟩|⟨h1,h2⟩
    ·rcases (zct hlt).1 h1 with rfl|h1
     ·rw [he,hev] at h2;cases h2;exact absurd rfl hb
     ·exact .inl ⟨k,h1,h2⟩
    ·refine .inr ⟨fun k cs' h3=>h1 k cs' ((zct hlt).2 (.inr h3)),?_⟩
     rcases h2 with ⟨k,q,h3,h4,h5⟩|h2
     ·rcases (zct hlt).1 h3 with rfl|h3
      ·rw [he,hev] at h4;cases h4
      ·exact .inl ⟨k,q,h3,h4,h5⟩
     ·exact .inr h2
   have hbb':b<s.mm.nxt\/∃i' c,exL listed i'/\es[i']?=some (.new c)/\(idE s.mm.nxt es)[i']?=some b:=by
    rcases hbb with h|⟨i',c',h1,h2,h3⟩
    ·exact .inl h
    ·rcases (zct hlt).1 h1 with rfl|h1
     ·rw [he,hev] at h2;cases h2
     ·exact .inr ⟨i',c',h1,h2,h3⟩
   obtain ⟨r,zs,t,h1,h2,h3⟩:=hD.mm b cs hcm' hbb'
   exact ⟨r,zs,t,h1,by rw [hold r (fun h=>hb (hD.inj b b0 r0 (h▸h1) hr0))];exact h2,h3⟩
 ·rcases hD.fr b r hr with h|⟨i',c',h1,h2,h3⟩
  ·exact .inl h
  ·exact .inr ⟨i',c',(zct hlt).2 (.inr h1),h2,h3⟩
 ·rcases (zct hlt).1 h1 with rfl|h1
  ·rw [he,hev] at h2;cases h2;exact ⟨r0,hr0⟩
  ·exact hD.stx k b cs h1 h2
end step
theorem zGd:∀(es:List Eff) (n0 i k:Nat) (e:Eff),es[i]?=some e->(idE n0 es)[i]?=some k->(valE n0 es)[i]?=some (match e with
  | .val v _=>v
  | .new c=>zrj k c.1
  | .st _ _=> .tup [])
 | [],_,_,_,_,h,_=>by simp at h
 | x::es,n0,0,k,e,h1,h2=>by
  simp at h1;subst h1
  cases x<;>simp [idE] at h2<;>subst h2<;>simp [valE]
 | x::es,n0,i+1,k,e,h1,h2=>by
  cases x<;>simp only [idE] at h2<;>simp only [valE,List.getElem?_cons_succ]<;>exact zGd es _ i k e (by simpa using h1) (by simpa using h2)
def zsI (tm:List (Nat×V)):List Nat->List (Nat×V)
 | []=> []
 | t::ts=>match lk tm t with
  | some v=>(t,v)::zsI tm ts
  | none=>zsI tm ts
theorem zzy {tm:List (Nat×V)}:∀ {ts:List Nat} {t:Nat},(t∈ts->lk (zsI tm ts) t=lk tm t)/\∀v,lk (zsI tm ts) t=some v->t∈ts/\lk tm t=some v
 | [],t=>⟨fun h=>by simp at h,fun v h=>by simp [zsI,lk] at h⟩
 | u::ts,t=>by
  obtain ⟨h1,h2⟩:=zzy (tm:=tm) (ts:=ts) (t:=t)
  cases hu:lk tm u with
  | none=>
   simp only [zsI,hu]
   refine ⟨fun h=>?_,fun v hv=>⟨by simp [(h2 v hv).1],(h2 v hv).2⟩⟩
   by_cases ht:t∈ts
   ·exact h1 ht
   ·simp [ht] at h;subst h
    rw [hu]
    cases hl:lk (zsI tm ts) t with
    | none=>rfl
    | some v=>exact absurd (h2 v hl).1 ht
  | some x=>
   simp only [zsI,hu,zbz]
   by_cases hut:u=t
   ·subst hut;simp [hu]
   ·simp only [if_neg hut]
    refine ⟨fun h=>h1 (by simpa [show ¬t=u from fun e=>hut e.symm] using h),fun v hv=>⟨by simp [(h2 v hv).1],(h2 v hv).2⟩⟩
theorem zE0 (Es:List (Ent P)) (w0:World):zqJ P w0 (zF0 Es):=by
 intro f vs m K r h ρ xs w hv hm o a next Q hn
 unfold zF0 at h
 split at h<;>try (cases h;done)
 rename_i e he
 have hid:=zv2 he
 cases hg:e.g vs (zvK m.blks vs) with
 | false=>simp [hg] at h
 | true=>
  simp only [hg,cond_true] at h
  split at h<;>try (cases h;done)
  rename_i v hv'
  have hm0:MRel w0 ρ ⟨zvK m.blks vs,m.nxt,m.lo⟩ w:=⟨fun b cs h=>hm.blk b cs (zup h).1,hm.inj,hm.fresh,hm.dom,hm.own,hm.bel,hm.lon,hm.am⟩
  have:=e.ok vs ⟨zvK m.blks vs,m.nxt,m.lo⟩ v hg hv' w0 ρ xs w hv hm0
  rw [hid] at this
  exact this o a next Q fun x w' ⟨h1,h2⟩=>hn v m ρ x w' (Ext.refl _) h1 (hm.below h2) h
theorem St.evs_same {s s':St}:∀ {xs:List Operand},(∀x∈xs,s'.ev x=s.ev x)->s'.evs xs=s.evs xs
 | [],_=>rfl
 | x::xs,h=>by simp only [St.evs,h x (by simp),St.evs_same (xs:=xs) (fun y hy=>h y (by simp [hy]))]
theorem St.evps_same {s s':St}:∀ {xs:List (Nat×Operand)},(∀x∈xs,s'.ev x.2=s.ev x.2)->s'.evps xs=s.evps xs
 | [],_=>rfl
 | (i,x)::xs,h=>by simp only [St.evps,h (i,x) (by simp),St.evps_same (xs:=xs) (fun y hy=>h y (by simp [hy]))]
theorem zJs {T:List (TyE P)} {call:zmX V} {s s':St} {o:Oper} (hq:quiet o.op=true) (hl:isLd o=false) (h:∀x∈o.op.operands,s'.ev x=s.ev x):
  opk T call s' o (fun v _=>some v)=opk T call s o (fun v _=>some v):=by
 obtain ⟨dst,op,type,pos,after,guard⟩:=o
 cases op<;>simp only [quiet,isLd,Bool.false_eq_true] at hq hl<;>try (cases hl;done)
 all_goals simp only [Op.operands] at h
 case move x=>simp only [opk,h x (by simp)]
 case assign x=>simp only [opk,h x (by simp)]
 case pick c x y=>simp only [opk,h c (by simp),h x (by simp),h y (by simp)]
 case build t ps=>simp only [opk,St.evps_same (s:=s) (s':=s') (xs:=ps.toList) (fun x hx=>h x.2 (by simp;exact ⟨x.1,by simpa using hx⟩))]
 case binOp op xt x y yt=>simp only [opk,h x (by simp),h y (by simp)]
 case unOp op xt x=>simp only [opk,h x (by simp)]
 case convert st dt x=>simp only [opk,h x (by simp)]
 case extract x i=>simp only [opk,h x (by simp)]
 case field t x i=>simp only [opk,h x (by simp)]
 case fieldAddr t x i=>simp only [opk,h x (by simp)]
 case index t x i=>simp only [opk,h x (by simp),h i (by simp)]
 case indexAddr t x i=>simp only [opk,h x (by simp),h i (by simp)]
 case nilCheck x=>simp only [opk,h x (by simp)]
 case makeFunc fn first caps=>cases fn<;>simp only [opk]<;>simp only [St.evs_same (s:=s) (s':=s') (xs:=caps.toList) (fun x hx=>h x (by simp;exact .inr (by simpa using hx)))]
 case call c=>
  have he:s'.evs c.args.toList=s.evs c.args.toList:=St.evs_same fun x hx=>h x (by simp [Call.operands];exact .inr (by simpa using hx))
  simp only [opk,he]
  split
  ·rename_i hc;rw [hc] at hq;simp at hq
  all_goals rfl
 all_goals (first|(simp only [opk];done)|rfl)
theorem zFJ {Es:List (Ent P)} {s s':St} {o:Oper} (h:∀x∈o.op.operands,s'.ev x=s.ev x):zCZ Es s' o=zCZ Es s o:=by
 unfold zCZ
 split
 ·rename_i c hop
  split
  ·rename_i g hc
   have:s'.evs c.args.toList=s.evs c.args.toList:=St.evs_same fun x hx=>h x (by rw [hop];simp [Op.operands,Call.operands];exact .inr (by simpa using hx))
   rw [this]
  ·rfl
 ·rfl
theorem zJt {T:List (TyE P)} {s s':St} {o:Oper} (h:∀x∈o.op.operands,s'.ev x=s.ev x):opg T s' o=opg T s o:=by
 obtain ⟨dst,op,type,pos,after,guard⟩:=o
 cases op<;>simp only [Op.operands] at h
 case indexAddr t x i=>simp only [opg,h x (by simp),h i (by simp)]
 case load t x=>simp only [opg,h x (by simp)]
 case binOp op xt x y yt=>simp only [opg,h x (by simp),h y (by simp)]
 case slice t x lo hi mx=>
  cases lo with
  | none=>cases hi with
   | none=>cases mx<;>first|(simp only [opg];done)|(simp only [opg,h x (by simp)])
   | some hi=>cases mx<;>first|(simp only [opg];done)|(simp only [opg,h x (by simp),h hi (by simp)])
  | some lo=>cases hi<;>cases mx<;>first|(simp only [opg];done)|(simp only [opg,h x (by simp),h lo (by simp)])
 case call c=>
  have he:s'.evs c.args.toList=s.evs c.args.toList:=St.evs_same fun x hx=>h x (by simp [Call.operands];exact .inr (by simpa using hx))
  simp only [opg,he]
 all_goals rfl
section
variable {ops:Array Oper} {es:List Eff} {s s':St} {T:List (TyE P)} {Es:List (Ent P)} {w0:World} {ρ0:Nat->Option Nat} {listed:Array Bool} {ρ:Nat->Option Nat} {a:Act} {w:World} {i:Nat}
 {Q:Exit->Act->World->Prop} {K:Act->World->Prop}
theorem DS.step (hrun:zpb ops.toList T Es ops.toList s=some (es,s')) (hall:znZ ops.toList 0 ops.toList es=true) (hD:DS ops.toList es s s'.mm.nxt w0 ρ0 listed ρ a w) (hr:i∈Region.ready .any ops listed)
  (hK:∀ρ' a' w',DS ops.toList es s s'.mm.nxt w0 ρ0 (listed.setIfInBounds i true) ρ' a' w'->K a' w'):wpOp P ops Q i K a w:=by
 obtain ⟨hun,o,ho',hed'⟩:=mem_ready.1 hr
 have ho:ops.toList[i]?=some o:=by simpa using ho'
 have hed:∀e∈o.after,Region.binds .any e=true->exL listed e.on:=hed'
 have hlen:=zv3 hrun
 obtain ⟨e,he⟩:∃e,es[i]?=some e:=by
  have:i<es.length:=by rw [hlen];exact (List.getElem?_eq_some_iff.1 ho).1
  exact ⟨_,List.getElem?_eq_getElem this⟩
 obtain ⟨si,hkn,hid,hfits,heff⟩:=zEP hrun i o e ho he
 obtain ⟨hend,hnx,hnew⟩:=zv4 hrun
 have hval:=zGd es _ i _ e he hid
 have hf:∀d,o.dst=some d->d<s.n:=fun d hd=>by
  rw [hd] at hfits
  have:d<si.n:=by simpa [St.fits] using hfits
  rwa [hkn.n] at this
 unfold wpOp
 simp only [ho']
 -- whether it is to be done
 have hwant:zwE ops.toList si o=some (Region.wanted o (yielded ops a.tmps))\/zwE ops.toList si o=none:=by
  unfold zwE Region.wanted
  cases hg:o.guard with
  | none=>exact .inl rfl
  | some jw=>
   obtain ⟨j,want⟩:=jw
   dsimp only
   cases hs:zu0 ops.toList j with
   | none=>exact .inr rfl
   | some d=>
    dsimp only
    have hmem:d∈zmA ops.toList o:=by
     unfold zmA
     refine List.mem_append.2 (.inl ?_)
     simp [zNh,hg,hs]
    cases hl:lk si.tm d with
    | none=>exact .inr rfl
    | some v=>
     cases v with
     | bool b=>
      left
      obtain ⟨x,hx1,hx2⟩:=hD.tm d _ (zC1 hall hlen hD ho he hun hed hmem (hkn.tm d _ hl))
      cases hx2
      have hy:yielded ops a.tmps j=some b:=by
       unfold zu0 at hs
       cases ho2:ops.toList[j]? with
       | none=>rw [ho2] at hs;cases hs
       | some oj=>
        rw [ho2] at hs
        dsimp only at hs
        have ho3:ops[j]?=some oj:=by simpa using ho2
        simp [yielded,ho3,hs,hx1]
      rw [hy]
      rfl
     | tup cs=>
      cases cs with
      | cons c cs=>exact .inr rfl
      | nil=>
       left
       obtain ⟨x,hx1,hx2⟩:=hD.tm d _ (zC1 hall hlen hD ho he hun hed hmem (hkn.tm d _ hl))
       have hy:yielded ops a.tmps j=none:=by
        cases hx2 with
        | tup hh=>
        unfold zu0 at hs
        cases ho2:ops.toList[j]? with
        | none=>rw [ho2] at hs;cases hs
        | some oj=>
         rw [ho2] at hs
         dsimp only at hs
         have ho3:ops[j]?=some oj:=by simpa using ho2
         simp [yielded,ho3,hs,hx1]
       rw [hy]
       rfl
     | _=>exact .inr rfl
 unfold effG at heff
 cases hwd:Region.wanted o (yielded ops a.tmps) with
 | false=>
  rw [if_neg (by simp)]
  rcases hwant with hwant|hwant
  ·rw [hwant,hwd] at heff
   cases heff
   exact hK ρ _ w (DS.val hall hlen hD ho he hun hed rfl hval (.tup (xs:= []) .nil) hf (Below.refl _ _))
  ·rw [hwant] at heff;cases heff
 | true=>
 rw [if_pos rfl]
 left
 have heff:zBF T Es si o=some e:=by
  rcases hwant with hwant|hwant
  ·rw [hwant,hwd] at heff;exact heff
  ·rw [hwant] at heff;cases heff
 unfold Oper.wp
 -- the operands, as the text's order knows them
 have hfresh:∀b,s'.mm.nxt<=b->ρ b=none:=fun b hb=>by
  cases hρ:ρ b with
  | none=>rfl
  | some r=>
   exfalso
   rcases hD.fr b r hρ with h|⟨i',c,h1,h2,h3⟩
   ·omega
   ·have:=hnew i' b ⟨c,h2⟩ h3;omega
 have base:∀bl:List (Nat×List V),(∀b cs,lk bl b=some cs->Loc ρ w b cs)->Rel w ρ ⟨zsI si.tm (zmA ops.toList o),s.n,⟨bl,s'.mm.nxt,s'.mm.nxt⟩⟩ a w:=fun bl hbl=>by
  refine ⟨fun t v ht=>?_,hD.sz,hD.df,⟨hbl,hD.inj,hfresh,hD.dom,(fun b r hb hr=>by rw [hfresh b hb] at hr;cases hr),Below.refl _ _,Nat.le_refl _,fun w' hw=>hD.am w' (hD.bel.trans (hw.mono hD.bel.size))⟩⟩
  obtain ⟨h1,h2⟩:=(zzy (tm:=si.tm) (ts:=zmA ops.toList o) (t:=t)).2 v ht
  exact hD.tm t v (zC1 hall hlen hD ho he hun hed h1 (hkn.tm t v h2))
 have hev:∀(bl:List (Nat×List V)),∀x∈o.op.operands,(St.mk (zsI si.tm (zmA ops.toList o)) s.n ⟨bl,s'.mm.nxt,s'.mm.nxt⟩).ev x=si.ev x:=fun bl x hx=>by
  cases x with
  | tmp t=>
   refine (zzy (tm:=si.tm) (ts:=zmA ops.toList o) (t:=t)).1 ?_
   unfold zmA
   exact List.mem_append.2 (.inr (List.mem_filterMap.2 ⟨.tmp t,by simpa using hx,rfl⟩))
  | _=>rfl
 have R0:=base [] (fun b cs h=>by simp [lk] at h)
 have ev0:=hev []
 -- behind a value
 have fin:∀(v:V) (rd:List Nat) (x:Value) (w':World),e= .val v rd->VR ρ v x->Below w.heap.size w w'->K (a.put o.dst x) w':=fun v rd x w' h1 h2 h3=>by
  rw [h1] at hval
  exact hK ρ _ w' (DS.val hall hlen hD ho he hun hed h1 hval h2 hf h3)
 have cells:∀x v,x∈o.op.operands->si.ev x=some v->VR ρ v (a.eval x):=fun x v hx hv=>R0.ev (by rw [ev0 x hx];exact hv)
 unfold zBF at heff
 split at heff
 ·rename_i g v hg
  cases hgt:g with
  | false=>rw [hgt] at heff;cases heff
  | true=>
   rw [hgt] at heff
   simp only [cond_true,Option.some.injEq] at heff
   obtain ⟨x,h1,h2,_⟩:=zBm (P:=P) (T:=T) (o:=o) (g0:=g) (v:=v) (by rw [zJt ev0];exact hg) hgt R0
   rw [h1]
   simp only [Oper.upon]
   exact fin v [] x w heff.symm h2 (Below.refl _ _)
 split at heff
 ·rename_i q cs hmk
  cases hq:Nat.beq q 1000001 with
  | true=>simp [hq] at heff
  | false=>
   simp only [hq,cond_false,Option.some.injEq] at heff
   cases heff
   obtain ⟨xs,ty,h1,h2⟩:=zNG hmk
   obtain ⟨ρ',hD'⟩:=DS.new (w:=w) (ty:=ty) (xv:= .slice (some ⟨w.heap.size,0,none⟩) q q) hall hlen hD ho he hun hed rfl hid hval (fun ρ' h=>by rw [zxO hq];exact VR.slc h) (h1 ρ) hf
   exact h2 a w _ _ (hK ρ' _ _ hD')
 split at heff
 ·rename_i gd cs hmk
  cases hgd:gd with
  | false=>simp [hgd] at heff
  | true=>
   rw [hgd] at hmk
   simp only [hgd,cond_true,Option.some.injEq] at heff
   cases heff
   refine zL5 (by rw [zFJ ev0];exact hmk) R0 _ _ fun r ys ty w' k1 k2 k3 k4=>?_
   obtain ⟨ρ',hD'⟩:=DS.newW (w:=w) (ty:=ty) (xv:= .tuple #[.pointer (some ⟨r,0,none⟩),.int .i64 0]) hall hlen hD ho he hun hed rfl hid hval k1 k2 k4 (fun ρ' h=>VR.tup (.cons (.ptr h) (.cons (.i64 ⟨0,rfl⟩) .nil))) (k3 ρ) hf
   exact hK ρ' _ _ hD'
 unfold zBE at heff
 split at heff
 ·-- alloc
  rename_i t hop
  split at heff<;>try (cases heff;done)
  rename_i ty hty
  cases heff
  have htid:=zdC hty
  obtain ⟨z,hz,hzc⟩:=ty.run_zero w
  rw [htid] at hz
  have hzc':z.cells=(ty.zero.map V.valD).toArray:=by rw [<- hzc]
  obtain ⟨ρ',hD'⟩:=DS.new (w:=w) (ty:=t) hall hlen hD ho he hun hed rfl hid hval (fun ρ' h=>VR.ptr h) (VRs.valD ty.hp) hf
  simp only [execOp,hop,Instr.alloc,Sem.run_bind,hz,Result.andThen_ok,newVar,newRow,run_newObj,Sem.run_pure,Oper.upon,hzc']
  exact hK ρ' _ _ hD'
 ·-- box
  rename_i t x hop
  split at heff<;>try (cases heff;done)
  rename_i v hv
  cases heff
  have hc:=(cells x v (by simp [hop,Op.operands]) hv).cells
  obtain ⟨ρ',hD'⟩:=DS.new (w:=w) (ty:=t) hall hlen hD ho he hun hed rfl hid hval (fun ρ' h=>VR.ptr h) hc hf
  simp only [Array.toArray_toList] at hD'
  simp only [execOp,hop,Instr.box,newVar,newRow,Sem.run_bind,run_newObj,Result.andThen_ok,Sem.run_pure,Oper.upon]
  exact hK ρ' _ _ hD'
 ·-- store
  rename_i t x y hop
  split at heff<;>try (cases heff;done)
  rename_i ty b off v hty hx hy
  have htid:=zdC hty
  cases hb:(Nat.beq v.cells.length ty.size&&Nat.blt b si.mm.nxt) with
  | false=>simp [hb] at heff
  | true=>
   simp only [hb,cond_true] at heff
   simp only [Bool.and_eq_true] at hb
   split at heff<;>try (cases heff;done)
   rename_i m hm
   split at heff<;>try (cases heff;done)
   rename_i cs hcs
   cases heff
   have hxv:=cells x _ (by simp [hop,Op.operands]) hx
   have hyv:=(cells y _ (by simp [hop,Op.operands]) hy).cells
   cases hxe:a.eval x<;>rw [hxe] at hxv<;>cases hxv
   rename_i r0 hr0
   -- the block, as it lies
   obtain ⟨old,hold⟩:∃old,lk si.mm.blks b=some old:=by
    unfold Mem.store at hm
    split at hm
    ·rename_i cs hc;exact ⟨cs,hc⟩
    ·cases hm
   have hcm:=zC2 hall hlen hD ho he hun hed (.inr ⟨cs,rfl⟩) (hkn.mm b old hold) (hD.fr b r0 hr0)
   have hloc:=hD.mm b old hcm (hD.fr b r0 hr0)
   have hlo:s.mm.lo<=b:=by
    unfold Mem.store at hm
    rw [hold] at hm
    cases hbb:(Nat.ble si.mm.lo b&&(Nat.ble (off+v.cells.length) old.length&&v.cells.all V.atom)) with
    | false=>simp [hbb] at hm
    | true=>
     simp only [Bool.and_eq_true] at hbb
     have:=Nat.le_of_ble_eq_true hbb.1
     rwa [hkn.lo] at this
   have hm2:(Mem.mk [(b,old)] (s'.mm.nxt) s.mm.lo).store b off v.cells=some ⟨[(b,cs),(b,old)],s'.mm.nxt,s.mm.lo⟩:=by
    unfold Mem.store at hm ⊢
    rw [hold] at hm
    simp only [zbz,if_true]
    cases hbb:(Nat.ble si.mm.lo b&&(Nat.ble (off+v.cells.length) old.length&&v.cells.all V.atom)) with
    | false=>simp [hbb] at hm
    | true=>
     simp only [hbb,cond_true,Option.some.injEq] at hm
     subst hm
     simp only [zbz,if_true,Option.some.injEq] at hcs
     rw [hkn.lo] at hbb
     simp only [hbb,cond_true,hcs]
   have hmr:MRel w0 ρ ⟨[(b,old)],s'.mm.nxt,s.mm.lo⟩ w:=by
    refine ⟨fun b' cs' h=>?_,hD.inj,hfresh,hD.dom,hD.own,hD.bel,Nat.le_trans hD.lon hnx,hD.am⟩
    simp only [zbz] at h
    by_cases hbb:b=b'
    ·subst hbb;simp at h;subst h;exact hloc
    ·rw [if_neg hbb] at h;simp [lk] at h
   obtain ⟨r',w',hr',hrun',hmr',hsame⟩:=hmr.store' (P:=P) hm2 hyv
   rw [hr0] at hr';cases hr'
   have hl:=hyv.length
   have hsz':=Nat.eq_of_beq_eq_true hb.1
   have h2:=ty.run_size w
   rw [htid] at h2
   have hcl:(a.eval y).cells.size=ty.size:=by simpa [hsz'] using hl
   simp only [execOp,hop,hxe,Instr.storeAt,Instr.sureAddr,storeVar,Sem.run_bind,Sem.run_pure,Result.andThen_ok,h2,hcl,ne_eq,not_true_eq_false,if_false,hrun',Oper.upon]
   refine hK ρ _ w' (DS.st hall hlen hD ho he hun hed rfl hval hr0 hsame.1 hsame.2 hmr'.bel (hmr'.blk b cs (by simp [zbz])) hf)
 ·-- buildSlice
  rename_i t n ps hop
  split at heff<;>try (cases heff;done)
  rename_i ty vs hty hvs
  split at heff<;>try (cases heff;done)
  rename_i et es' hkd
  split at heff<;>try (cases heff;done)
  rename_i ee hee
  cases hb:(Nat.beq ee.size es'&&Nat.beq ee.zero.length es'&&Nat.ble (n*es') 1000 && !Nat.beq (n*es') 0) with
  | false=>simp [hb] at heff
  | true=>
   simp only [hb,cond_true] at heff
   split at heff<;>try (cases heff;done)
   rename_i cs hcs
   cases heff
   have hvs0:(St.mk (zsI si.tm (zmA ops.toList o)) s.n ⟨[],s'.mm.nxt,s'.mm.nxt⟩).evps ps.toList=some vs:=by
    rw [<- hvs]
    exact St.evps_same fun x hx=>ev0 x.2 (by rw [hop];simp only [Op.operands];simp;exact ⟨x.1,by simpa using hx⟩)
   have nq:Nat.beq n 1000001=false:=by
    have hb':=hb
    simp only [Bool.and_eq_true,Bool.not_eq_true'] at hb'
    have q1:=Nat.le_of_ble_eq_true hb'.1.2
    have q2:n*es'≠0:=fun e=>by
     have:=hb'.2
     rw [e] at this
     cases this
    have q3:n<=n*es':=Nat.le_mul_of_pos_right _ (Nat.pos_of_ne_zero fun e=>q2 (by rw [e,Nat.mul_zero]))
    cases hq:Nat.beq n 1000001 with
    | false=>rfl
    | true=>
     have:=Nat.eq_of_beq_eq_true hq
     omega
   obtain ⟨xs',el,h1,h2⟩:=zFp (P:=P) hop hty hvs0 hkd hee hb hcs R0
   obtain ⟨ρ',hD'⟩:=DS.new (w:=w) (ty:=el) (xv:= .slice (some ⟨w.heap.size,0,none⟩) n n) hall hlen hD ho he hun hed rfl hid hval (fun ρ' h=>by rw [zxO nq];exact VR.slc h) h2 hf
   rw [h1]
   simp only [Oper.upon]
   exact hK ρ' _ _ hD'
 ·-- the rest
  rename_i n1 n2 n3 n4
  split at heff<;>try (cases heff;done)
  rename_i v hv
  cases heff
  cases hq:quiet o.op with
  | true=>
   cases hl:isLd o with
   | false=>
    have hv':=hv
    rw [<- zJs (s':=⟨zsI si.tm (zmA ops.toList o),s.n,⟨[],s'.mm.nxt,s'.mm.nxt⟩⟩) hq hl ev0] at hv'
    refine zpA (zE0 Es w) hv' R0 fun u m' ρ' x w' h1 h2 h3 h4 h5=>?_
    obtain ⟨rfl,rfl⟩:=h4 hq
    cases h5
    exact fin v _ x w' rfl h2 (Below.refl _ _)
   | true=>
    obtain ⟨t,x,hop⟩:∃t x,o.op= .load t x:=by
     unfold isLd at hl
     split at hl
     ·rename_i t x hop;exact ⟨t,x,hop⟩
     ·cases hl
    have hxm:x∈o.op.operands:=by simp [hop,Op.operands]
    simp only [opk,hop] at hv
    split at hv<;>try (cases hv;done)
    rename_i ty b off hty hx
    have hxv:=cells x _ hxm hx
    have hxe:∃r,a.eval x= .pointer (some ⟨r,off,none⟩)/\ρ b=some r:=by
     cases hh:a.eval x<;>rw [hh] at hxv<;>cases hxv
     rename_i r hr;exact ⟨r,rfl,hr⟩
    obtain ⟨r,hxe,hrb⟩:=hxe
    have hblk:∃cs,lk si.mm.blks b=some cs:=by
     split at hv<;>try (cases hv;done)
     ·split at hv<;>try (cases hv;done)
      rename_i cs hcs
      unfold Mem.load at hcs
      split at hcs
      ·rename_i cs' hc;exact ⟨cs',hc⟩
      ·cases hcs
     ·split at hv<;>try (cases hv;done)
      rename_i u hu
      unfold Mem.load1 at hu
      split at hu
      ·rename_i cs' hc;exact ⟨cs',hc⟩
      ·cases hu
    obtain ⟨cs,hcs⟩:=hblk
    have hcm:=zC2 hall hlen hD ho he hun hed (.inl ⟨v,_,rfl,by simp [rdOf,hop,hx,hasN]⟩) (hkn.mm b cs hcs) (hD.fr b r hrb)
    have hloc:=hD.mm b cs hcm (hD.fr b r hrb)
    have R1:=base [(b,cs)] (fun b' cs' h=>by
     simp only [zbz] at h
     by_cases hbb:b=b'
     ·subst hbb;simp at h;subst h;exact hloc
     ·rw [if_neg hbb] at h;simp [lk] at h)
    have hx1:=hev [(b,cs)] x hxm
    rw [hx] at hx1
    have hv':opk T (zF0 Es) ⟨zsI si.tm (zmA ops.toList o),s.n,⟨[(b,cs)],s'.mm.nxt,s'.mm.nxt⟩⟩ o (fun v _=>some v)=some v:=by
     unfold opk
     rw [hop]
     simp only [hty,hx1,Mem.load,Mem.load1,zbz,if_true]
     simp only [Mem.load,Mem.load1,hcs] at hv
     exact hv
    refine zpA (zE0 Es w) hv' R1 fun u m' ρ' x w' h1 h2 h3 h4 h5=>?_
    obtain ⟨rfl,rfl⟩:=h4 hq
    cases h5
    exact fin v _ x w' rfl h2 (Below.refl _ _)
  | false=>
   -- a call
   cases hop:o.op<;>rw [hop] at hq<;>simp only [quiet,Bool.true_eq_false] at hq
   case alloc t=>exact (n1 t hop).elim
   case box t x=>exact (n2 t x hop).elim
   case store t x y=>exact (n3 t x y hop).elim
   case buildSlice t n ps=>exact (n4 t n ps hop).elim
   case call c=>
    split at hq<;>try (cases hq;done)
    rename_i f hc
    simp only [opk,hop,hc] at hv
    split at hv<;>try (cases hv;done)
    rename_i g caps vs hfv hvs
    have hmem:∀x∈f::c.args.toList,x∈o.op.operands:=fun x hx=>by
     simp only [hop,Op.operands,Call.operands,hc]
     simpa using hx
    have hfr:=cells f _ (hmem f (by simp)) hfv
    cases hfe:a.eval f<;>rw [hfe] at hfr<;>cases hfr
    rename_i xs hxs
    have hargs:VRs ρ vs (c.args.toList.map a.eval):=R0.evs (by
     rw [St.evs_same (s:=si) (fun x hx=>ev0 x (hmem x (by simp [hx])))];exact hvs)
    have hall':=hargs.append hxs
    unfold zF0 at hv
    split at hv<;>try (cases hv;done)
    rename_i en hen
    have hid':=zv2 hen
    cases hgd:en.g (vs++caps) (zvK si.mm.blks (vs++caps)) with
    | false=>simp [hgd] at hv
    | true=>
     simp only [hgd,cond_true] at hv
     split at hv<;>try (cases hv;done)
     rename_i u hu
     cases hv
     have hmr:MRel w ρ ⟨zvK si.mm.blks (vs++caps),s'.mm.nxt,s'.mm.nxt⟩ w:=by
      refine ⟨fun b cs hb=>?_,R0.mr.inj,R0.mr.fresh,R0.mr.dom,R0.mr.own,R0.mr.bel,R0.mr.lon,R0.mr.am⟩
      obtain ⟨hcs,hp⟩:=zup hb
      obtain ⟨r,hrb⟩:=zsG hp hall'
      have hcm:=zC2 hall hlen hD ho he hun hed (.inl ⟨v,_,rfl,by simp only [rdOf,hop,hc,hfv,hvs,hp]⟩) (hkn.mm b cs hcs) (hD.fr b r hrb)
      exact hD.mm b cs hcm (hD.fr b r hrb)
     have hdo:=en.ok (vs++caps) ⟨zvK si.mm.blks (vs++caps),s'.mm.nxt,s'.mm.nxt⟩ v hgd hu w ρ _ w hall' hmr
     rw [hid'] at hdo
     have e:(execOp a.eval o).run P w=(callFunc g ((c.args.toList.map a.eval)++xs).toArray).run P w:=by
      simp only [execOp,hop,resolve,hc,hfe,Deferred.ofValue,pure_bind,invoke]
      congr 2
      simp
     rw [e]
     exact hdo o a K Q fun x w' ⟨h1,h2⟩=>fin v _ x w' rfl h1 h2
theorem zyd {listed:Array Bool} {i:Nat} (hlt:i<listed.size) (hif:listed.getD i false=false):∀(l:List Nat),l.Nodup->i∈l->
  (l.filter fun k=> !listed.getD k false).length=(l.filter fun k=> !(listed.setIfInBounds i true).getD k false).length+1
 | [],_,h=>by simp at h
 | x::l,hnd,hm=>by
  obtain ⟨h1,h2⟩:=List.nodup_cons.1 hnd
  by_cases hx:x=i
  ·subst hx
   have e:(l.filter fun k=> !(listed.setIfInBounds x true).getD k false)=l.filter fun k=> !listed.getD k false:=by
    apply List.filter_congr
    intro k hk
    rw [getD_set_ne (listed:=listed) (i:=x) (j:=k) false (fun e=>h1 (e.symm▸hk))]
   have e1:(!listed.getD x false)=true:=by rw [hif];rfl
   have e2:(!(listed.setIfInBounds x true).getD x false)=false:=by simp [hlt]
   rw [List.filter_cons,List.filter_cons,e1,e2,e]
   simp
  ·have hm':i∈l:=by
    rcases List.mem_cons.1 hm with h|h
    ·exact absurd h.symm hx
    ·exact h
   have ih:=zyd hlt hif l h2 hm'
   have e:(listed.setIfInBounds i true).getD x false=listed.getD x false:=getD_set_ne false (fun e=>hx e.symm)
   rw [List.filter_cons,List.filter_cons,e]
   split
   ·simp only [List.length_cons];omega
   ·exact ih
theorem zKb (hm:P.follows .mixedOrders=true) {A:Type}:zyp P w0 (zkm (A:=A) T Es):=by
 intro id ops s K r h ρ0 a w Q hr hq
 unfold zkm at h
 split at h<;>try (cases h;done)
 rename_i es s' hrun
 cases hall:znZ ops.toList 0 ops.toList es with
 | false=>simp [hall] at h
 | true=>
  simp only [hall,cond_true] at h
  have hlen:=zv3 hrun
  obtain ⟨hend,hnx,hnew⟩:=zv4 hrun
  have main:∀(fuel:Nat) (listed:Array Bool) (ρ:Nat->Option Nat) (a:Act) (w:World),DS ops.toList es s s'.mm.nxt w0 ρ0 listed ρ a w->
    (((List.range ops.size).filter fun k=> !listed.getD k false).length=fuel)->wpAny P .any ops Q fuel listed a w:=by
   intro fuel
   induction fuel with
   | zero=>
    intro listed ρ a w hD hcount
    have hallx:∀k,k<ops.size->exL listed k:=fun k hk=>by
     have:k∉(List.range ops.size).filter fun k=> !listed.getD k false:=by
      rw [List.length_eq_zero_iff.1 hcount];simp
     simp only [List.mem_filter,List.mem_range,hk,true_and,Bool.not_eq_true'] at this
     unfold exL;simpa using this
    refine ⟨?_,?_⟩
    ·cases hrd:Region.ready .any ops listed with
     | nil=>rfl
     | cons x t=>
      exfalso
      have hx:x∈Region.ready .any ops listed:=by rw [hrd];simp
      obtain ⟨h1,o,h2,_⟩:=mem_ready.1 hx
      have hk:x<ops.size:=(Array.getElem?_eq_some_iff.1 h2).1
      have:=hallx x hk
      unfold exL at this
      have hlt:x<listed.size:=by rw [hD.lsz];simpa using hk
      simp [hlt] at h1 this
      rw [h1] at this;cases this
    ·refine hq s' ρ a w hD.ext ⟨fun t v ht=>?_,by rw [hD.sz,hend.n],hD.df,⟨fun b cs hc=>?_,hD.inj,fun b hb=>?_,hD.dom,fun b r hb hr'=>hD.own b r (by rw [<- hend.lo];exact hb) hr',hD.bel,?_,hD.am⟩⟩ h
     ·refine hD.tm t v ?_
      rcases hend.tm t v ht with ⟨j,oj,h1,h2,h3,h4⟩|⟨h1,h2⟩
      ·exact .inl ⟨j,oj,h1,hallx j (by simpa using h2),h3,h4⟩
      ·exact .inr ⟨fun k ok hk hex=>h1 k ok hk (List.getElem?_eq_some_iff.1 hk).1,h2⟩
     ·have hcm:CM es (idE s.mm.nxt es) s.mm.blks (exL listed) b cs:=by
       rcases hend.mm b cs hc with ⟨j,h1,h2⟩|⟨h1,h2⟩
       ·exact .inl ⟨j,hallx j (by simpa using h1),h2⟩
       ·refine .inr ⟨fun k cs' hex hst=>h1 k cs' (by rw [<- hlen];exact (List.getElem?_eq_some_iff.1 hst).1) hst,?_⟩
        rcases h2 with ⟨j,q,h3,h4,h5⟩|h2
        ·exact .inl ⟨j,q,hallx j (by simpa using h3),h4,h5⟩
        ·exact .inr h2
      refine hD.mm b cs hcm ?_
      rcases hcm with ⟨j,h1,h2⟩|⟨h1,⟨j,q,h3,h4,h5⟩|h2⟩
      ·obtain ⟨r,hr'⟩:=hD.stx j b cs h1 h2
       exact hD.fr b r hr'
      ·exact .inr ⟨j,(q,cs),h3,h4,h5⟩
      ·obtain ⟨r,hr'⟩:=hD.ini b cs h2
       left
       rcases Nat.lt_or_ge b s.mm.nxt with h|h
       ·exact h
       ·have:=hr.mr.fresh b h;rw [this] at hr';cases hr'
     ·cases hρ:ρ b with
      | none=>rfl
      | some r'=>
       exfalso
       rcases hD.fr b r' hρ with h|⟨i',c,h1,h2,h3⟩
       ·omega
       ·have:=hnew i' b ⟨c,h2⟩ h3;omega
     ·rw [hend.lo];exact Nat.le_trans hr.mr.lon hnx
   | succ fuel ih=>
    intro listed ρ a w hD hcount
    refine ⟨fun hnil=>?_,fun i hi=>?_⟩
    ·exfalso
     -- the first that has not come up is ready
     have hex:∃k,k<ops.size/\listed.getD k false=false:=by
      have:((List.range ops.size).filter fun k=> !listed.getD k false) ≠ []:=by intro h;rw [h] at hcount;simp at hcount
      obtain ⟨k,hk⟩:=List.exists_mem_of_ne_nil _ this
      simp only [List.mem_filter,List.mem_range,Bool.not_eq_true'] at hk
      exact ⟨k,hk.1,hk.2⟩
     have hmin:∃k,k<ops.size/\listed.getD k false=false/\∀j,j<k->listed.getD j false=true:=by
      have key:∀n k,k<=n->k<ops.size->listed.getD k false=false->∃k,k<ops.size/\listed.getD k false=false/\∀j,j<k->listed.getD j false=true:=by
       intro n
       induction n with
       | zero=>intro k h1 h2 h3;exact ⟨k,h2,h3,fun j hj=>by omega⟩
       | succ n ihn=>
        intro k h1 h2 h3
        by_cases hj:∃j,j<k/\listed.getD j false=false
        ·obtain ⟨j,hj1,hj2⟩:=hj
         exact ihn j (by omega) (by omega) hj2
        ·exact ⟨k,h2,h3,fun j hj1=>by
          cases hh:listed.getD j false with
          | true=>rfl
          | false=>exact absurd ⟨j,hj1,hh⟩ hj⟩
      obtain ⟨k,h1,h2⟩:=hex
      exact key k k (Nat.le_refl _) h1 h2
     obtain ⟨k,hk1,hk2,hk3⟩:=hmin
     have hk4:ops.toList[k]?=some ops[k]:=by simp [hk1]
     have:k∈Region.ready .any ops listed:=by
      refine mem_ready.2 ⟨?_,ops[k],by simp [hk1],fun e he hb=>?_⟩
      ·have hlt:k<listed.size:=by rw [hD.lsz];simpa using hk1
       simp [hlt] at hk2 ⊢;exact hk2
      ·have:=zx3 (i0:=0) hlen.symm hall k hk4 e he hb
       exact hk3 _ (by omega)
     rw [hnil] at this;cases this
    ·refine DS.step hrun hall hD hi fun ρ' a' w' hD'=>ih _ ρ' a' w' hD' ?_
     -- one fewer
     have hi0:listed.getD i true=false:=(mem_ready.1 hi).1
     have hlt:i<listed.size:=by
      rcases Nat.lt_or_ge i listed.size with h|h
      ·exact h
      ·simp [Array.getElem?_eq_none h] at hi0
     have hi1:i<ops.size:=by have:=hD.lsz;simp at this;omega
     have hif:listed.getD i false=false:=by simp [hlt] at hi0 ⊢;exact hi0
     have hsplit:((List.range ops.size).filter fun k=> !listed.getD k false).length=((List.range ops.size).filter fun k=> !(listed.setIfInBounds i true).getD k false).length+1:=by
      exact zyd hlt hif _ List.nodup_range (List.mem_range.2 hi1)
     omega
  have none:∀k,¬exL (Array.replicate ops.size false) k:=fun k h=>by
   unfold exL at h
   by_cases hk:k<ops.size<;>simp [hk] at h
  refine wp_region_any hm (main ops.size _ ρ0 a _ ⟨hr.sz,hr.df,Ext.refl _,fun t v ht=>?_,fun b cs hc _=>?_,hr.mr.inj,hr.mr.dom,hr.mr.own,hr.mr.bel.drew,fun b r hρ=>?_,by simp,fun k o _ hex=>?_,fun k b cs hex=>?_,fun b cs hl=>?_,hr.mr.lon,hr.mr.am⟩ ?_)
  ·rcases ht with ⟨j,oj,_,h2,_⟩|⟨_,h2⟩
   ·exact (none j h2).elim
   ·exact hr.tm t v h2
  ·rcases hc with ⟨j,h1,_⟩|⟨_,⟨j,_,h1,_⟩|h2⟩
   ·exact (none j h1).elim
   ·exact (none j h1).elim
   ·exact hr.mr.blk b cs h2
  ·left
   rcases Nat.lt_or_ge b s.mm.nxt with h|h
   ·exact h
   ·have:=hr.mr.fresh b h;rw [this] at hρ;cases hρ
  ·exact (none k hex).elim
  ·exact (none k hex).elim
  ·obtain ⟨r,_,_,h1,_⟩:=hr.mr.blk b cs hl
   exact ⟨r,h1⟩
  ·rw [List.filter_eq_self.2 (fun k hk=>by simp at hk;simp [hk])];simp
end
end
end Go.Proofs.YtaoakfodkoifoaaGreat.Ev
