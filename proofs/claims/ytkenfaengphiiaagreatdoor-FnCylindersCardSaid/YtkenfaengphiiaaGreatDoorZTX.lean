/- The law FnCylinders gives true, whatever bytes come in, where the listed tables hold what the program's text lays. The card: the tables tied to the text. No other conditions. (One of the texts of its proof, put together by a program of this session.) -/
import Derived.Shelf.Lay
import Derived.Shelf.LaysM
import Derived.Shelf.LaysC
import Derived.Shelf.Strconv.Itoa4
import Derived.Shelf.Strconv.ParseIntPublic10
import Derived.Shelf.Strings.OnBuilder
import Derived.Shelf.Strings.BuilderX
import Derived.Shelf.Strings.Prefix
import Derived.Shelf.Strings.Split
import Derived.Ground.NamesProg
import Derived.Test.YtkenfaengphiiaaGreatDoorProg
import Derived.Lib.ItoaNum
import Derived.Lib.ItoaMem
import Derived.Lib.Repeat
import Derived.Lib.ParseIntBTie
import Derived.Lib.SplitLaws
import Derived.WideShapes
import Derived.Laws.Concat
import Derived.Test.YtkenfaengphiiaaGreatDoorZW1
import Derived.Lib.LaidTab
import Derived.Tactics
import Derived.WalkKit
import Derived.Test.YtkenfaengphiiaaGreatDoorChecked
import Derived.KernelRfl
set_option linter.unusedSectionVars false
set_option linter.unusedSimpArgs false
set_option linter.unusedVariables false
noncomputable section
namespace Go.Proofs
open Go.Shelf
shelf_lay Lays.n156 Nm 156 at Tryz as Tryz.lays156
theorem Tryz.Builder_Extra_156:Builder.Extra Tryz.prog Tryz.lays156_ren where
 sizeBuilder:=by kernel_rfl
 liesBuilder:=by kernel_rfl
 t5:=Tryz.underlying5
 a5:=Tryz.isAgg5
 z5:=Tryz.sizeOf5
 v5:=Tryz.zeroValue5
 infoByte:=by kernel_rfl
 cellsByte:=by kernel_rfl
 sizeByte:=by kernel_rfl
 neB5:=by decide
open Go.RowKit in
theorem Tryz.strings_Join (bk o c:Nat) (xs:List ByteArray) (sep:ByteArray) (w:World) (hcells:∀(j:Nat) x,xs[j]?=some x->w.cell? ⟨bk,o+j,none⟩=some (.string x)) (hbk:bk<w.heap.size) (hN:xs.length<=140737488355328) (hcap:xs.length<=c) (hlen:(Lib.join (xs.map (·.data.toList)) sep.data.toList).length<=140737488355328):
  Calls Tryz.prog 79 #[.slice (some ⟨bk,o,none⟩) xs.length c,.string sep] w fun e w'=>e= .returned (.string ⟨(Lib.join (xs.map (·.data.toList)) sep.data.toList).toArray⟩)/\Below w.heap.size w w':=Any.strings_Join Tryz.lays156 Tryz.Builder_Extra_156 bk o c xs sep w hcells hbk hN hcap hlen
shelf_lay LaysM.n173 Nm 173 at Tryz as Tryz.laysM173
open Go.RowKit Go.Sort Go.Lib in
theorem Tryz.strconv_FormatInt_10 (n : Int) (h0 : -9223372036854775808 <= n) (h1 : n <= 9223372036854775807) (w : World) (htab : Lib.TabIs Tryz.prog w "internal/strconv.uint64pow10" .u64 Lib.pow10Tab) :
  Calls Tryz.prog 134 #[.int .i64 n,.int .i64 10] w fun e w'=>e= .returned (.string ⟨(Lib.itoa n).toArray⟩)/\∃k os,w'=grow (w.drewN k) os:=Any.strconv_FormatInt_10 Tryz.laysM173 n h0 h1 w htab
shelf_lay LaysC.n174 Nm 174 at Tryz as Tryz.laysC174
open Go.RowKit in
theorem Tryz.strconv_ParseInt_10_at64_ok (s:ByteArray) (hmax:s.size<=9223372036854775806) (v:Int) (h:Lib.parseIntB 64 s.data.toList= .ok v) (w:World):
  Calls Tryz.prog 70 #[.string s,.int .i64 10,.int .i64 64] w fun e w'=>e= .returned (.tuple #[.int .i64 v,.nilIface])/\(w'=w\/∃t,w'=Lib.bytesWorld w 5 t):=Any.strconv_ParseInt_10_at64_ok Tryz.laysC174 s hmax v h w
open Go.RowKit in
theorem Tryz.strconv_ParseInt_10_at64_syntax (s:ByteArray) (hlim:s.size<=281474976710656) (h:Lib.parseIntB 64 s.data.toList=Lib.parseIntB 64 []) (ev:Value) (w:World) (hv:w.cell? ⟨2,0,none⟩=some ev) (hev:ev= .nilIface\/∃te pe,ev= .iface te pe):
  Calls Tryz.prog 70 #[.string s,.int .i64 10,.int .i64 64] w fun e w'=>∃N,e= .returned (.tuple #[.int .i64 (0),.iface 132 (.pointer (some ⟨N,0,none⟩))])/\w.heap.size<=N/\w'.heap[N]?=some (.cells #[.string ⟨#[80,97,114,115,101,73,110,116]⟩,.string s,ev] 152 (0,0))/\Below w.heap.size w w':=Any.strconv_ParseInt_10_at64_syntax Tryz.laysC174 s hlim (h.trans (by rfl)) ev w hv hev
open Go.RowKit in
theorem Tryz.strconv_ParseInt_10_at64_range (s:ByteArray) (hlim:s.size<=281474976710656) (h:Lib.parseIntB 64 s.data.toList= .range) (ev:Value) (w:World) (hv:w.cell? ⟨3,0,none⟩=some ev) (hev:ev= .nilIface\/∃te pe,ev= .iface te pe):
  Calls Tryz.prog 70 #[.string s,.int .i64 10,.int .i64 64] w fun e w'=>∃N,e= .returned (.tuple #[.int .i64 (Lib.intSat 64 s.data.toList),.iface 132 (.pointer (some ⟨N,0,none⟩))])/\w.heap.size<=N/\w'.heap[N]?=some (.cells #[.string ⟨#[80,97,114,115,101,73,110,116]⟩,.string s,ev] 152 (0,0))/\Below w.heap.size w w':=Any.strconv_ParseInt_10_at64_range Tryz.laysC174 s hlim h ev w hv hev
shelf_lay Lays.n101 Nm 101 at Tryz as Tryz.lays101
open Go.RowKit Go.Lib in
theorem Tryz.strings_TrimPrefix (s p:ByteArray) (w:World):
  Calls Tryz.prog 72 #[.string s,.string p] w fun e w'=>e= .returned (.string ⟨(Lib.trimPrefix s.data.toList p.data.toList).toArray⟩)/\w'=w:=Any.strings_TrimPrefix Tryz.lays101 s p w
shelf_lay Lays.n146 Nm 146 at Tryz as Tryz.lays146
open Go.RowKit Go.Lib in
theorem Tryz.strings_Split (s sep:ByteArray) (m:Int) (w:World) (hs:s.size<4294967281) (hm:w.cell? ⟨1,0,none⟩=some (.int .i64 m)) (h1:1<=sep.size):
  Calls Tryz.prog 24 #[.string s,.string sep] w fun e w'=>
   e= .returned (.slice (some ⟨w.heap.size,0,none⟩) (Lib.countB s sep+1) (Lib.countB s sep+1))/\w'=w.alloc (.cells ((Lib.splitB sep 0 (Lib.countB s sep) s).map Value.string).toArray 9):=Any.strings_Split Tryz.lays146 (by kernel_rfl) s sep m w hs hm h1
end Go.Proofs
namespace Go.Proofs.YtkenfaengphiiaaGreatDoor.Rp
open Go Go.Lib
theorem zqL {u:Nat} (h:u<10):decDigits u= [UInt8.ofNat (48+u)]:=by rw [decDigits,dif_pos h]
theorem zDL {u:Nat} (h:¬u<10):decDigits u=decDigits (u/10) ++ [UInt8.ofNat (48+u%10)]:=by rw [decDigits,dif_neg h]
theorem zqN {d:Nat} (h:d<10):(UInt8.ofNat (48+d)).toNat=48+d:=by
 rw [UInt8.toNat_ofNat'];omega
theorem zDK:∀(n u:Nat),u<n->∀c∈decDigits u,48<=c.toNat/\c.toNat<=57
 | 0,_,h,_,_=>by omega
 | n+1,u,h,c,hc=>by
  by_cases k:u<10
  ·rw [zqL k] at hc
   simp only [List.mem_cons,List.not_mem_nil,or_false] at hc
   subst hc;rw [zqN k];omega
  ·rw [zDL k,List.mem_append] at hc
   rcases hc with hc|hc
   ·exact zDK n (u/10) (by omega) c hc
   ·simp only [List.mem_cons,List.not_mem_nil,or_false] at hc
    subst hc;rw [zqN (by omega)];omega
theorem zqM {u:Nat} {c:UInt8} (h:c∈decDigits u):48<=c.toNat/\c.toNat<=57:=zDK (u+1) u (by omega) c h
theorem zHW (u:Nat):decDigits u ≠ []:=by
 by_cases k:u<10
 ·rw [zqL k];simp
 ·rw [zDL k];simp
def val:Nat->List UInt8->Nat
 | a,[]=>a
 | a,c::r=>val (a*10+(c.toNat-48)) r
theorem zw9:∀(l r:List UInt8) (a v:Nat),parseUint10 a l= .ok v->parseUint10 a (l++r)=parseUint10 v r
 | [],r,a,v,h=>by
  simp only [parseUint10] at h
  injection h with h
  subst h;rfl
 | c::l,r,a,v,h=>by
  simp only [parseUint10,List.cons_append] at h ⊢
  split at h
  ·rename_i h1
   rw [if_pos h1]
   split at h
   ·cases h
   ·rename_i h2
    rw [if_neg h2]
    split at h
    ·cases h
    ·rename_i h3
     rw [if_neg h3]
     exact zw9 l r _ v h
  ·cases h
theorem zz2:∀(n u:Nat),u<n->u<18446744073709551616->parseUint10 0 (decDigits u)= .ok u
 | 0,_,h,_=>by omega
 | n+1,u,h,hb=>by
  by_cases k:u<10
  ·rw [zqL k]
   have e:=zqN k
   simp only [parseUint10,e]
   rw [if_pos (by omega),if_neg (by omega),if_neg (by omega)]
   congr 1;omega
  ·have e:=zqN (show u%10<10 by omega)
   rw [zDL k,zw9 _ _ _ _ (zz2 n (u/10) (by omega) (by omega))]
   simp only [parseUint10,e]
   rw [if_pos (by omega),if_neg (by omega),if_neg (by omega)]
   congr 1;omega
theorem zGb {u:Nat} (h:u<18446744073709551616):parseMag (decDigits u)= .ok u:=by
 unfold parseMag
 rw [if_neg (zHW u),zz2 (u+1) u (by omega) h]
theorem zy1 {v:Int} (h:0<=v):itoa v=decDigits v.toNat:=by unfold itoa;rw [if_neg (by omega)]
theorem zy2 {v:Int} (h:v<0):itoa v=45::decDigits v.natAbs:=by unfold itoa;rw [if_pos h]
theorem zDX {v:Int} (h0: -9223372036854775808<=v) (h1:v<=9223372036854775807):atoiAll (itoa v)= .ok v:=by
 by_cases hn:v<0
 ·rw [zy2 hn,atoiAll_minus,zGb (by omega)]
  simp only [signed]
  rw [if_neg (by omega)]
  congr 1;omega
 ·rw [zy1 (by omega)]
  have hne:=zHW v.toNat
  have hd:=@zqM v.toNat
  have hm:=zGb (u:=v.toNat) (by omega)
  generalize decDigits v.toNat=l at *
  cases l with
  | nil=>exact absurd rfl hne
  | cons c r=>
   have:=hd (c:=c) (by simp)
   rw [atoiAll_plain c r (by omega) (by omega),hm]
   simp only [signless]
   rw [if_neg (by omega)]
   congr 1;omega
theorem zxr (v:Int):(32:UInt8)∉itoa v:=by
 intro h
 by_cases hn:v<0
 ·rw [zy2 hn,List.mem_cons] at h
  rcases h with h|h
  ·exact absurd h (by decide)
  ·have:=zqM h;exact absurd this (by decide)
 ·rw [zy1 (by omega)] at h
  have:=zqM h;exact absurd this (by decide)
def sp:List UInt8->List (List UInt8)
 | []=> [[]]
 | c::r=>if c=32 then []::sp r else match sp r with
  | p::ps=>(c::p)::ps
  | []=> [[c]]
def jn:List (List UInt8)->List UInt8
 | []=> []
 | [p]=>p
 | p::q::ps=>p++32::jn (q::ps)
theorem zB1:∀(w r:List UInt8),(32:UInt8)∉w->sp (w++32::r)=w::sp r
 | [],r,_=>by simp [sp]
 | c::w,r,h=>by
  have ih:=zB1 w r (fun k=>h (List.mem_cons_of_mem _ k))
  have hc:c≠32:=fun e=>h (by rw [e];simp)
  rw [List.cons_append,sp,if_neg hc,ih]
theorem zB3:∀(w:List UInt8),(32:UInt8)∉w->sp w= [w]
 | [],_=>rfl
 | c::w,h=>by
  have ih:=zB3 w (fun k=>h (List.mem_cons_of_mem _ k))
  have hc:c≠32:=fun e=>h (by rw [e];simp)
  rw [sp,if_neg hc,ih]
theorem zIx:∀(p:List UInt8) (ps:List (List UInt8)),(∀q∈p::ps,(32:UInt8)∉q)->sp (jn (p::ps))=p::ps
 | p,[],h=>zB3 p (h p (by simp))
 | p,q::ps,h=>by
  show sp (p++32::jn (q::ps))=_
  rw [zB1 _ _ (h p (by simp)),zIx q ps (fun x hx=>h x (List.mem_cons_of_mem _ hx))]
theorem zvH (l:List UInt8):index (32::l) [32]=0:=by simp [index]
theorem zvG {b:UInt8} (h:b≠32) (l:List UInt8):index (b::l) [32]=if index l [32] == -1 then -1 else index l [32]+1:=by
 have:([32]:List UInt8).isPrefixOf (b::l)=false:=by simp [List.isPrefixOf,Ne.symm h]
 rw [index,this];rfl
theorem zE9 (s:List UInt8):index s [32]= -1\/∃i:Nat,index s [32]=i:=by
 rcases index_spec s [32] with h|⟨i,h,_⟩
 ·exact .inl h.1
 ·exact .inr ⟨i,h⟩
theorem zwB:∀s:List UInt8,splitK [32] 0 (count s [32]) s=sp s
 | []=>by rw [count_one];rfl
 | b::l=>by
  have ih:=zwB l
  by_cases hb:b=32
  ·subst hb
   rw [count_cons_eq,Nat.add_comm,splitK,zvH,sp,if_pos rfl]
   simp only [List.length_cons,List.length_nil]
   exact congrArg (fun x=> []::x) ih
  ·rw [count_cons_ne _ _ _ hb,sp,if_neg hb,<- ih]
   rcases zE9 l with hi|⟨i,hi⟩
   ·rw [count_miss hi];rfl
   ·have hc:=count_hit (s:=l) (sub:= [32]) (by simp) hi
    rw [hc,Nat.add_comm,splitK,splitK,zvG hb,hi]
    have n1:(((i:Int) == -1)=true)=False:=by simp
    have n2:(((i:Int)+1 == -1)=true)=False:=by simp;omega
    simp only [n1,n2,if_false]
    have t1:((i:Int)+1).toNat=i+1:=by omega
    rw [t1]
    simp [Nat.add_right_comm]
end Go.Proofs.YtkenfaengphiiaaGreatDoor.Rp
namespace Go.Proofs.YtkenfaengphiiaaGreatDoor.Pp
open Go Go.RowKit
def dI (m:Nat):List Int:=if h:m=0 then [] else dI (m/10) ++ [((48+m%10:Nat):Int)]
termination_by m
decreasing_by omega
theorem zzf:dI 0= []:=by rw [dI];rfl
theorem zGk {m:Nat} (h:m≠0):dI m=dI (m/10) ++ [((48+m%10:Nat):Int)]:=by conv=>lhs;rw [dI];rw [dif_neg h]
theorem zJa (m:Nat) (h:m≠0):(dI m).map (fun n=>UInt8.ofNat n.toNat)=Lib.decDigits m:=by
 induction m using Nat.strongRecOn with
 | _ m ih=>
  rw [zGk h,Lib.decDigits,List.map_append]
  by_cases h1:m<10
  ·rw [dif_pos h1,show m/10=0 by omega,zzf,show m%10=m by omega]
   simp only [List.map_nil,List.nil_append,List.map_cons,Int.toNat_natCast]
  ·rw [dif_neg h1,ih (m/10) (by omega) (by omega)]
   simp only [List.map_nil,List.map_cons,Int.toNat_natCast]
theorem zI9 (d:Nat):∀m,m<10^d->(dI m).length<=d:=by
 induction d with
 | zero=>intro m h;simp at h;subst h;rw [zzf];simp
 | succ d ih=>
  intro m h
  by_cases h0:m=0
  ·subst h0;rw [zzf];simp
  ·rw [zGk h0,List.length_append]
   have:=ih (m/10) (by rw [Nat.pow_succ] at h;omega)
   simp;omega
theorem zLh (a b:List UInt8):(⟨a.toArray⟩:ByteArray)++⟨b.toArray⟩=⟨(a++b).toArray⟩:=by
 rw [ByteArray.mk_append_mk]
def pad:Nat->Nat->List UInt8
 | 0,_=> []
 | d+1,m=>pad d (m/10) ++ [UInt8.ofNat (48+m%10)]
theorem zEH (c:Nat):Lib.repeatL [48] c ++ [48]=Lib.repeatL [48] (c+1):=by
 induction c with
 | zero=>rfl
 | succ c ih=>
  show ([48]++Lib.repeatL [48] c) ++ [48]= [48]++Lib.repeatL [48] (c+1)
  rw [List.append_assoc,ih]
theorem zHa:∀(d m:Nat),m<10^(d+1)->(Lib.decDigits m).length<=d+1/\pad (d+1) m=Lib.repeatL [48] (d+1-(Lib.decDigits m).length)++Lib.decDigits m:=by
 intro d
 induction d with
 | zero=>
  intro m h
  have h1:m<10:=by simpa using h
  rw [Lib.decDigits,dif_pos h1]
  refine ⟨by simp,?_⟩
  simp only [pad,List.nil_append,List.length_singleton,show m%10=m by omega]
  rfl
 | succ d ih=>
  intro m h
  obtain ⟨i1,i2⟩:=ih (m/10) (by rw [Nat.pow_succ] at h;omega)
  show (Lib.decDigits m).length<=d+1+1/\pad (d+1) (m/10) ++ [UInt8.ofNat (48+m%10)]=_
  by_cases h1:m<10
  ·have hz:m/10=0:=by omega
   rw [i2,hz]
   have e0:Lib.decDigits 0= [48]:=Lib.decDigits_one (by decide)
   have e1:Lib.decDigits m= [UInt8.ofNat (48+m)]:=Lib.decDigits_one h1
   rw [e0,e1]
   refine ⟨by simp,?_⟩
   simp only [List.length_singleton,Nat.add_sub_cancel,show m%10=m by omega]
   rw [zEH d]
  ·rw [Lib.decDigits,dif_neg h1]
   refine ⟨by simp;omega,?_⟩
   rw [i2,List.length_append,List.length_singleton,List.append_assoc,show d+1+1-((Lib.decDigits (m/10)).length+1)=d+1-(Lib.decDigits (m/10)).length by omega]
theorem zE8 (n:Int) (h0: -9223372036854775808<=n) (h1:n<=9223372036854775807):(Lib.itoa n).length<=21:=by
 have key:∀m:Nat,m<=9223372036854775808->(Lib.decDigits m).length<=20:=fun m hm=>(zHa 19 m (by omega)).1
 unfold Lib.itoa
 split
 ·have:=key n.natAbs (by omega);simp;omega
 ·have:=key n.toNat (by omega);omega
end Go.Proofs.YtkenfaengphiiaaGreatDoor.Pp
namespace Go.Proofs.YtkenfaengphiiaaGreatDoor.Tx
open Go Go.RowKit
open Go.Proofs.YtkenfaengphiiaaGreatDoor.Ev
set_option maxRecDepth 100000
variable [Amb]
theorem zne {P:Program} (b:Bod P) {xs:List Value} {w:World} {R:Value->World->Prop} (h:Calls P b.id xs.toArray w fun e w'=>∃x,e= .returned x/\R x w'):Does P b.id xs.toArray w R:=by
 intro o a next Q hn
 rw [zen,Oper.upon_enter]
 refine Calls.mono h fun e w' he=>?_
 obtain ⟨x,rfl,h1⟩:=he
 exact hn x w' h1
theorem zsc (w:World) (k:Nat) (os:Array Obj):Below w.heap.size w (Sort.grow (w.drewN k) os):=by
 refine ⟨rfl,rfl,rfl,?_,fun i hi=>?_⟩
 ·show w.heap.size<=(w.heap++os).size;simp
 ·show (w.heap++os)[i]?=w.heap[i]?;exact Array.getElem?_append_left hi
theorem gPow : Tryz.prog.globalNamed "internal/strconv.uint64pow10" = some 6 := by kernel_rfl
theorem zBI {ρ:Nat->Option Nat}:∀ {L:List U64} {xs:List Value},VRs ρ (L.map V.u64) xs->xs=L.map fun x=> .int .u64 x.val
 | [],xs,h=>by cases h;rfl
 | x::L,xs,h=>by
  cases h with
  | cons h t=>cases h;rw [zBI t];rfl
theorem zFS {w : World} (h : Inv0 w) : Lib.TabIs Tryz.prog w "internal/strconv.uint64pow10" .u64 Lib.pow10Tab := by
 obtain ⟨xs,t,h1,h2⟩:=h.1 6 _ rfl
 unfold Lib.TabIs World.var?
 rw [gPow]
 simp only [Option.bind_some,h1]
 rw [zBI h2]
 have e:(zzY.map fun x=>Value.int .u64 x.val)=Lib.pow10Tab.map fun z=>Value.int .u64 z:=by kernel_rfl
 rw [e]
def decB (n:I64):ByteArray:=⟨(Lib.itoa n.val).toArray⟩
def B134:Bod Tryz.prog:=⟨134,Tryz.f134,Tryz.f134.body.getD .skip,Tryz.func134,by kernel_rfl,by kernel_rfl,zav.no _ _⟩
def zzA : Ent Tryz.prog where
  id := 134
  g := fun vs _ => match vs with
    | [.i64 _, .i64 k] => k.val == 10
    | _ => false
  fn := fun vs _ => match vs with
    | [.i64 n, .i64 _] => some (.str (decB n))
    | _ => none
  ok := fun vs m v hg hf w0 ρ xs w hv hm => by
    split at hf <;> try (cases hf;done)
    rename_i n k
    cases hf
    have hk : k.val = 10 := by simpa using hg
    cases hv with
    | cons h1 t => cases t with
      | cons h2 t => cases t;cases h1;cases h2
                     rw [hk]
                     refine zne B134 ((Tryz.strconv_FormatInt_10 n.val n.bd.1 n.bd.2 w (zFS hm.invw)).mono fun e w' he => ?_)
                     obtain ⟨rfl, q, os, rfl⟩ := he
                     exact ⟨_, rfl, .str _, zsc w q os⟩
def Y3:TyE Tryz.prog:=⟨3,1,(.int .i64),[.i64 ⟨0,rfl⟩],false,by kernel_rfl,by kernel_rfl,by kernel_rfl,by kernel_rfl,by kernel_rfl,by kernel_rfl⟩
def Y9:TyE Tryz.prog:=⟨9,1,.str,[.str ByteArray.empty],false,by kernel_rfl,by kernel_rfl,by kernel_rfl,by kernel_rfl,by kernel_rfl,by kernel_rfl⟩
def Y56:TyE Tryz.prog:=⟨56,1,(.slice 9 1),[.nils],false,by kernel_rfl,by kernel_rfl,by kernel_rfl,by kernel_rfl,by kernel_rfl,by kernel_rfl⟩
def Y90:TyE Tryz.prog:=⟨90,17,(.array 17 9 1),(List.replicate 17 (.str ByteArray.empty)),false,by kernel_rfl,by kernel_rfl,by kernel_rfl,by kernel_rfl,by kernel_rfl,by kernel_rfl⟩
def B71:Bod Tryz.prog:=⟨71,Tryz.f71,Tryz.f71.body.getD .skip,Tryz.func71,by kernel_rfl,by kernel_rfl,zav.no _ _⟩
def Tb71:Tb Tryz.prog:= {T:= [Y2,Y9],mix:=mix,Es:= [zzA],Bs:= [],d:=1}
theorem r71 (n:I64):Tb71.run B71 [enc n] ByteArray=some (decB n):=by kernel_rfl
def zEi:Ent Tryz.prog:= .of1 Tb71 B71 (fun _=>true) decB fun n _=>r71 n
theorem zBJ (ρ:Nat->Option Nat):∀L:List ByteArray,VRs ρ (L.map V.str) (L.map Value.string)
 | []=> .nil
 | s::L=> .cons (.str s) (zBJ ρ L)
def strsOf:List V->Option (List ByteArray)
 | []=>some []
 | .str s::t=>match strsOf t with
  | some r=>some (s::r)
  | none=>none
 | _=>none
theorem zwA:∀ {cs:List V} {L:List ByteArray},strsOf cs=some L->cs=L.map V.str
 | [],L,h=>by simp [strsOf] at h;subst h;rfl
 | c::cs,L,h=>by
  cases c<;>simp only [strsOf] at h<;>try (cases h;done)
  split at h<;>try (cases h;done)
  rename_i s r hr
  cases h
  rw [zwA hr];rfl
def zDa (L:List ByteArray) (sep:ByteArray):ByteArray:=⟨(Lib.join (L.map (·.data.toList)) sep.data.toList).toArray⟩
theorem ztU {ρ:Nat->Option Nat}:∀ {L:List ByteArray} {xs:List Value},VRs ρ (L.map V.str) xs->xs=L.map Value.string
 | [],xs,h=>by cases h;rfl
 | x::L,xs,h=>by
  cases h with
  | cons h t=>cases h;rw [ztU t];rfl
def B79:Bod Tryz.prog:=⟨79,Tryz.f79,Tryz.f79.body.getD .skip,Tryz.func79,by kernel_rfl,by kernel_rfl,zav.no _ _⟩
def zKO : Ent Tryz.prog where
  id := 79
  g := fun vs bs => match vs with
    | [.slc b o n c, .str sep] => match lk bs b with
      | some cs => match strsOf cs with
        | some L => decide ((Lib.join (L.map (·.data.toList)) sep.data.toList).length <= 140737488355328)
        | none => false
      | none => false
    | _ => false
  fn := fun vs bs => match vs with
    | [.slc b o n c, .str sep] => match lk bs b with
      | some cs => match strsOf cs with
        | some L => bif Nat.beq o 0 && (Nat.beq L.length n && (Nat.ble n c && Nat.ble n 1000)) then some (.str (zDa L sep)) else none
        | none => none
      | none => none
    | _ => none
  ok := fun vs m v hg hf w0 ρ xs w hv hm => by
    split at hf <;> try (cases hf;done)
    rename_i b o n c sep
    split at hf <;> try (cases hf;done)
    rename_i cs hcs
    split at hf <;> try (cases hf;done)
    rename_i L hL
    simp only [hcs, hL, decide_eq_true_eq] at hg
    cases hb : (Nat.beq o 0 && (Nat.beq L.length n && (Nat.ble n c && Nat.ble n 1000))) with
    | false => simp [hb] at hf
    | true =>
      simp only [hb, cond_true, Option.some.injEq] at hf
      subst hf
      simp only [Bool.and_eq_true] at hb
      obtain ⟨b1, b2, b3, b4⟩ := hb
      have b1 := Nat.eq_of_beq_eq_true b1
      have b2 := Nat.eq_of_beq_eq_true b2
      have b3 := Nat.le_of_ble_eq_true b3
      have b4 := Nat.le_of_ble_eq_true b4
      subst b1;subst b2
      cases hv with
      | cons h1 t => cases t with
        | cons h2 t => cases t;cases h2;cases h1
                       rename_i r hr
                       obtain ⟨r', ys, ty, k1, k2, k3⟩ := hm.blk b cs hcs
                       rw [hr] at k1;cases k1
                       rw [zwA hL] at k3
                       have hys := ztU k3
                       subst hys
                       refine zne B79 ((Tryz.strings_Join r 0 c L sep w (fun j x hx => ?_) (hm.dom b r hr) (by omega) b3 hg).mono fun e w' he => ?_)
                       · rw [cell_of_row w r _ _ ty _ k2]
                         simp [hx]
                       · obtain ⟨rfl, hbl⟩ := he
                         exact ⟨_, rfl, .str _, hbl⟩
end Go.Proofs.YtkenfaengphiiaaGreatDoor.Tx
namespace Go.Proofs.YtkenfaengphiiaaGreatDoor.Tx
open Go Go.RowKit
open Go.Proofs.YtkenfaengphiiaaGreatDoor.Ev
set_option maxRecDepth 100000
variable [Amb]
def B28:Bod Tryz.prog:=⟨28,Tryz.f28,Tryz.f28.body.getD .skip,Tryz.func28,by kernel_rfl,by kernel_rfl,zav.no _ _⟩
def Tb28:Tb Tryz.prog:= {T:= [Y2,Y9,Y25,Y56,Y90],mix:=mix,Es:= [zEi,zKO],Bs:= [],d:=1}
def sp1:ByteArray:=⟨#[32]⟩
def parts (s:ByteArray) (a b c d:I64):List ByteArray:= [s,decB a,decB b,decB c,decB d]
def iTx (s:ByteArray) (a b c d:I64):Option ByteArray:=bif decide ((Lib.join ((parts s a b c d).map (·.data.toList)) sp1.data.toList).length<=140737488355328) then some (zDa (parts s a b c d) sp1) else none
def s1 (s:ByteArray):ByteArray:=s++sp1
def s2 (s:ByteArray) (a:I64):ByteArray:=s1 s++decB a
def s3 (s:ByteArray) (a:I64):ByteArray:=s2 s a++sp1
def s4 (s:ByteArray) (a b:I64):ByteArray:=s3 s a++decB b
def s5 (s:ByteArray) (a b:I64):ByteArray:=s4 s a b++sp1
def s6 (s:ByteArray) (a b c:I64):ByteArray:=s5 s a b++decB c
def s7 (s:ByteArray) (a b c:I64):ByteArray:=s6 s a b c++sp1
def s8 (s:ByteArray) (a b c d:I64):ByteArray:=s7 s a b c++decB d
theorem i1 (a b c d:I64):Tb28.run B28 [enc (⟨⟨1,rfl⟩,a,b,c,d⟩:Proj)] ByteArray=iTx (names.getD 1 ByteArray.empty) a b c d:=by kernel_rfl
theorem i2 (a b c d:I64):Tb28.run B28 [enc (⟨⟨2,rfl⟩,a,b,c,d⟩:Proj)] ByteArray=iTx (names.getD 2 ByteArray.empty) a b c d:=by kernel_rfl
theorem i3 (a b c d:I64):Tb28.run B28 [enc (⟨⟨3,rfl⟩,a,b,c,d⟩:Proj)] ByteArray=iTx (names.getD 3 ByteArray.empty) a b c d:=by kernel_rfl
theorem i4 (a b c d:I64):Tb28.run B28 [enc (⟨⟨4,rfl⟩,a,b,c,d⟩:Proj)] ByteArray=iTx (names.getD 4 ByteArray.empty) a b c d:=by kernel_rfl
theorem i5 (a b c d:I64):Tb28.run B28 [enc (⟨⟨5,rfl⟩,a,b,c,d⟩:Proj)] ByteArray=iTx (names.getD 5 ByteArray.empty) a b c d:=by kernel_rfl
theorem i6 (a b c d:I64):Tb28.run B28 [enc (⟨⟨6,rfl⟩,a,b,c,d⟩:Proj)] ByteArray=iTx (names.getD 6 ByteArray.empty) a b c d:=by kernel_rfl
theorem i7 (a b c d:I64):Tb28.run B28 [enc (⟨⟨7,rfl⟩,a,b,c,d⟩:Proj)] ByteArray=iTx (names.getD 7 ByteArray.empty) a b c d:=by kernel_rfl
theorem i8 (a b c d:I64):Tb28.run B28 [enc (⟨⟨8,rfl⟩,a,b,c,d⟩:Proj)] ByteArray=iTx (names.getD 8 ByteArray.empty) a b c d:=by kernel_rfl
theorem i9 (a b c d:I64):Tb28.run B28 [enc (⟨⟨9,rfl⟩,a,b,c,d⟩:Proj)] ByteArray=iTx (names.getD 9 ByteArray.empty) a b c d:=by kernel_rfl
theorem i10 (a b c d:I64):Tb28.run B28 [enc (⟨⟨10,rfl⟩,a,b,c,d⟩:Proj)] ByteArray=iTx (names.getD 10 ByteArray.empty) a b c d:=by kernel_rfl
theorem i11 (a b c d:I64):Tb28.run B28 [enc (⟨⟨11,rfl⟩,a,b,c,d⟩:Proj)] ByteArray=iTx (names.getD 11 ByteArray.empty) a b c d:=by kernel_rfl
theorem i12 (a b c d:I64):Tb28.run B28 [enc (⟨⟨12,rfl⟩,a,b,c,d⟩:Proj)] ByteArray=iTx (names.getD 12 ByteArray.empty) a b c d:=by kernel_rfl
theorem i13 (a b c d:I64):Tb28.run B28 [enc (⟨⟨13,rfl⟩,a,b,c,d⟩:Proj)] ByteArray=iTx (names.getD 13 ByteArray.empty) a b c d:=by kernel_rfl
theorem i14 (a b c d:I64):Tb28.run B28 [enc (⟨⟨14,rfl⟩,a,b,c,d⟩:Proj)] ByteArray=iTx (names.getD 14 ByteArray.empty) a b c d:=by kernel_rfl
theorem i15 (a b c d:I64):Tb28.run B28 [enc (⟨⟨15,rfl⟩,a,b,c,d⟩:Proj)] ByteArray=iTx (names.getD 15 ByteArray.empty) a b c d:=by kernel_rfl
theorem i16 (a b c d:I64):Tb28.run B28 [enc (⟨⟨16,rfl⟩,a,b,c,d⟩:Proj)] ByteArray=iTx (names.getD 16 ByteArray.empty) a b c d:=by kernel_rfl
end Go.Proofs.YtkenfaengphiiaaGreatDoor.Tx
namespace Go.Proofs.YtkenfaengphiiaaGreatDoor.Tx
open Go Go.RowKit
open Go.Proofs.YtkenfaengphiiaaGreatDoor.Ev
set_option maxRecDepth 100000
variable [Amb]
theorem zCN (l:List UInt8):(⟨l.toArray⟩:ByteArray).size=l.length:=by simp [ByteArray.size]
theorem zi7 (n:I64):(decB n).size<=21:=by unfold decB;rw [zCN];exact Pp.zE8 n.val n.bd.1 n.bd.2
theorem sz (s:ByteArray):s.data.toList.length=s.size:=rfl
theorem zxK (s:ByteArray):s=⟨s.data.toList.toArray⟩:=by cases s;simp
theorem zjq {s:ByteArray} (hs:s.size<=10) (a b c d:I64):iTx s a b c d=some (s8 s a b c d):=by
 have da:=zi7 a
 have db:=zi7 b
 have dc:=zi7 c
 have dd:=zi7 d
 have e1:(s1 s).size<=11:=by unfold s1;rw [ByteArray.size_append];show _+1<=11;omega
 have e2:(s2 s a).size<=32:=by unfold s2;rw [ByteArray.size_append];omega
 have e3:(s3 s a).size<=33:=by unfold s3;rw [ByteArray.size_append];show _+1<=33;omega
 have e4:(s4 s a b).size<=54:=by unfold s4;rw [ByteArray.size_append];omega
 have e5:(s5 s a b).size<=55:=by unfold s5;rw [ByteArray.size_append];show _+1<=55;omega
 have e6:(s6 s a b c).size<=76:=by unfold s6;rw [ByteArray.size_append];omega
 have e7:(s7 s a b c).size<=77:=by unfold s7;rw [ByteArray.size_append];show _+1<=77;omega
 have e8:(s8 s a b c d).size<=98:=by unfold s8;rw [ByteArray.size_append];omega
 have hj:zDa (parts s a b c d) sp1=s8 s a b c d:=by
  unfold zDa s8 s7 s6 s5 s4 s3 s2 s1
  rw [zxK s,zxK (decB a),zxK (decB b),zxK (decB c),zxK (decB d)]
  simp only [sp1,show (⟨#[32]⟩:ByteArray)=⟨[(32:UInt8)].toArray⟩ from rfl,Pp.zLh]
  simp [Lib.join,parts,List.intercalate]
 unfold iTx
 have hl:(Lib.join ((parts s a b c d).map (·.data.toList)) sp1.data.toList).length=(s8 s a b c d).size:=by
  rw [<- hj];unfold zDa;rw [zCN]
 rw [hl,hj,show decide ((s8 s a b c d).size<=140737488355328)=true by simp;omega]
 rfl
def B7:Bod Tryz.prog:=⟨7,Tryz.f7,Tryz.f7.body.getD .skip,Tryz.func7,by kernel_rfl,by kernel_rfl,zav.no _ _⟩
def kG (k:I64):Bool:=decide (1<=k.val)&&decide (k.val<=16)
theorem zy0 {k:I64} (h:kG k=true):k=⟨1,rfl⟩\/k=⟨2,rfl⟩\/k=⟨3,rfl⟩\/k=⟨4,rfl⟩\/k=⟨5,rfl⟩\/k=⟨6,rfl⟩\/k=⟨7,rfl⟩\/k=⟨8,rfl⟩\/k=⟨9,rfl⟩\/k=⟨10,rfl⟩\/k=⟨11,rfl⟩\/k=⟨12,rfl⟩\/k=⟨13,rfl⟩\/k=⟨14,rfl⟩\/k=⟨15,rfl⟩\/k=⟨16,rfl⟩:=by
 simp only [kG,Bool.and_eq_true,decide_eq_true_eq] at h
 have e:∀n:I64,k.val=n.val->k=n:=fun n h=>Rng.ext h
 have:k.val=1\/k.val=2\/k.val=3\/k.val=4\/k.val=5\/k.val=6\/k.val=7\/k.val=8\/k.val=9\/k.val=10\/k.val=11\/k.val=12\/k.val=13\/k.val=14\/k.val=15\/k.val=16:=by omega
 rcases this with h|h|h|h|h|h|h|h|h|h|h|h|h|h|h|h
 ·left;exact e ⟨1,rfl⟩ h
 ·right;left;exact e ⟨2,rfl⟩ h
 ·right;right;left;exact e ⟨3,rfl⟩ h
 ·right;right;right;left;exact e ⟨4,rfl⟩ h
 ·right;right;right;right;left;exact e ⟨5,rfl⟩ h
 ·right;right;right;right;right;left;exact e ⟨6,rfl⟩ h
 ·right;right;right;right;right;right;left;exact e ⟨7,rfl⟩ h
 ·right;right;right;right;right;right;right;left;exact e ⟨8,rfl⟩ h
 ·right;right;right;right;right;right;right;right;left;exact e ⟨9,rfl⟩ h
 ·right;right;right;right;right;right;right;right;right;left;exact e ⟨10,rfl⟩ h
 ·right;right;right;right;right;right;right;right;right;right;left;exact e ⟨11,rfl⟩ h
 ·right;right;right;right;right;right;right;right;right;right;right;left;exact e ⟨12,rfl⟩ h
 ·right;right;right;right;right;right;right;right;right;right;right;right;left;exact e ⟨13,rfl⟩ h
 ·right;right;right;right;right;right;right;right;right;right;right;right;right;left;exact e ⟨14,rfl⟩ h
 ·right;right;right;right;right;right;right;right;right;right;right;right;right;right;left;exact e ⟨15,rfl⟩ h
 ·right;right;right;right;right;right;right;right;right;right;right;right;right;right;right;exact e ⟨16,rfl⟩ h
def nmK (k:I64):ByteArray:=names.getD k.val.toNat ByteArray.empty
def txP (p:Proj):ByteArray:=s8 (nmK p.kind) p.lat0 p.lon0 p.lat1 p.lat2
theorem both (p:Proj) (h:kG p.kind=true):Tb28.run B28 [enc p] ByteArray=some (txP p):=by
 obtain ⟨k,a,b,c,d⟩:=p
 rcases zy0 h with rfl|rfl|rfl|rfl|rfl|rfl|rfl|rfl|rfl|rfl|rfl|rfl|rfl|rfl|rfl|rfl
 ·exact (i1 a b c d).trans (zjq (by decide) a b c d)
 ·exact (i2 a b c d).trans (zjq (by decide) a b c d)
 ·exact (i3 a b c d).trans (zjq (by decide) a b c d)
 ·exact (i4 a b c d).trans (zjq (by decide) a b c d)
 ·exact (i5 a b c d).trans (zjq (by decide) a b c d)
 ·exact (i6 a b c d).trans (zjq (by decide) a b c d)
 ·exact (i7 a b c d).trans (zjq (by decide) a b c d)
 ·exact (i8 a b c d).trans (zjq (by decide) a b c d)
 ·exact (i9 a b c d).trans (zjq (by decide) a b c d)
 ·exact (i10 a b c d).trans (zjq (by decide) a b c d)
 ·exact (i11 a b c d).trans (zjq (by decide) a b c d)
 ·exact (i12 a b c d).trans (zjq (by decide) a b c d)
 ·exact (i13 a b c d).trans (zjq (by decide) a b c d)
 ·exact (i14 a b c d).trans (zjq (by decide) a b c d)
 ·exact (i15 a b c d).trans (zjq (by decide) a b c d)
 ·exact (i16 a b c d).trans (zjq (by decide) a b c d)
def zmk:Ent Tryz.prog:= .of1 Tb28 B28 (fun p:Proj=>kG p.kind) txP fun p h=>both p h
def Tb7:Tb Tryz.prog:= {T:= [Y2,Y9,Y25],mix:=mix,Es:= [zcK,zmk],Bs:= [],d:=1}
theorem r7 (p:Proj):Tb7.run B7 [enc p] ByteArray=bif !(zZ p) then some ⟨#[]⟩ else bif kG p.kind then some (txP p) else none:=by kernel_rfl
theorem zyZ {p:Proj} (h:zZ p=true):kG p.kind=true:=by
 simp only [zZ,zcb,Tr.get] at h
 cases hw:zaw p.kind ⟨1,rfl⟩ ⟨16,rfl⟩
 ·rw [hw] at h;simp at h
 ·rw [zbO] at hw;simpa [kG] using hw
def pjB (p:Proj):ByteArray:=bif zZ p then txP p else ⟨#[]⟩
theorem f14 (p:Proj):Tb7.run B7 [enc p] ByteArray=some (pjB p):=by
 rw [r7];unfold pjB
 cases h:zZ p
 ·rfl
 ·rw [zyZ h];rfl
end Go.Proofs.YtkenfaengphiiaaGreatDoor.Tx
namespace Go.Proofs.YtkenfaengphiiaaGreatDoor.Tx
open Go Go.RowKit
open Go.Proofs.YtkenfaengphiiaaGreatDoor.Ev
set_option maxRecDepth 100000
variable [Amb]
def numL (l:List UInt8):Option Int:=match Lib.atoiAll l with
 | .ok v=>if Lib.itoa v=l/\(Lib.trimPrefix l [45]).length<=18 then some v else none
 | _=>none
def rdV (s:ByteArray):Int:=match numL s.data.toList with
 | some v=>v
 | none=>0
def rdB (s:ByteArray):Bool:=(numL s.data.toList).isSome
theorem zCB {l:List UInt8} {v:Int} (h:Lib.atoiAll l= .ok v):numL l=if Lib.itoa v=l/\(Lib.trimPrefix l [45]).length<=18 then some v else none:=by
 unfold numL;rw [h]
theorem zHf {l:List UInt8} (h:∀v,Lib.atoiAll l ≠ .ok v):numL l=none:=by
 unfold numL
 split
 ·rename_i v e;exact absurd e (h v)
 ·rfl
theorem zDJ (n:Int) (h0: -9223372036854775808<=n) (h1:n<=9223372036854775807) (w:World) (hI:Inv0 w):Calls Tryz.prog 71 #[.int .i64 n] w fun e w'=>e= .returned (.string ⟨(Lib.itoa n).toArray⟩)/\Below w.heap.size w w':=by
 go_enter Tryz.func71,Tryz.ntmps71
 go_wp2_with (first
  | (go_at_call 134;refine (Tryz.strconv_FormatInt_10 _ h0 h1 _ (zFS hI)).mono ?_;rintro e w' ⟨rfl,q,os,rfl⟩))
 go_ret
 exact ⟨rfl,zsc w q os⟩
theorem zKW (s:ByteArray) (w:World) (hI:Inv0 w) (hs:s.size<=2000000) (v:Int) (hv:Lib.parseIntB 64 s.data.toList= .ok v):Calls Tryz.prog 25 #[.string s] w fun e w'=>e= .returned (.tuple #[.int .i64 (rdV s),.bool (rdB s)])/\Below w.heap.size w w':=by
 have ha:Lib.atoiAll s.data.toList= .ok v:=by rw [<- Lib.parseIntB_64];exact hv
 have hb:=Lib.atoiAll_bounds ha
 have hn:=zCB ha
 have below1:∀w',(w'=w\/∃t,w'=Lib.bytesWorld w 5 t)->Below w.heap.size w w':=fun w' h=>by
  rcases h with rfl|⟨t,rfl⟩
  ·exact Below.refl _ _
  ·exact Lib.bytesWorld_below _ _ _
 go_enter Tryz.func25,Tryz.ntmps25
 go_wp2_with (first
  | (go_at_call 70;refine (Tryz.strconv_ParseInt_10_at64_ok _ (by omega) v hv _).mono ?_;rintro e w' ⟨rfl,h⟩;replace h:=below1 _ h)
  | (go_at_call 71;refine (zDJ v hb.1 (by omega) _ (hI.below h (Nat.le_refl _))).mono ?_;rintro e w'' ⟨rfl,hb⟩;replace hb:=h.trans (hb.mono h.size))
  | (go_at_call 72;refine (Tryz.strings_TrimPrefix _ _ _).mono ?_;rintro e w3 ⟨rfl,rfl⟩))
 ·go_ret2
  have h2:18<((Lib.trimPrefix s.data.toList [45]).length:Int):=by assumption
  have e:numL s.data.toList=none:=by rw [hn,if_neg (by omega)]
  refine ⟨?_,by assumption⟩
  unfold rdV rdB;rw [e];rfl
 ·go_ret2
  have h1:Lib.itoa v=s.toList:=by assumption
  have h1':Lib.itoa v=s.data.toList:=by rw [h1,ByteArray.toList_eq]
  have h2:((Lib.trimPrefix s.data.toList [45]).length:Int)<=18:=by assumption
  have e:numL s.data.toList=some v:=by rw [hn,if_pos ⟨h1',by omega⟩]
  refine ⟨?_,by assumption⟩
  unfold rdV rdB;rw [e];rfl
 ·go_ret2
  have h1:¬Lib.itoa v=s.toList:=by assumption
  have h1':¬Lib.itoa v=s.data.toList:=by rw [<- ByteArray.toList_eq];exact h1
  have e:numL s.data.toList=none:=by rw [hn,if_neg (fun k=>h1' k.1)]
  refine ⟨?_,by assumption⟩
  unfold rdV rdB;rw [e];rfl
theorem zF1 (s:ByteArray) (w:World) (hI:Inv0 w) (hs:s.size<=2000000) (hv:Lib.parseIntB 64 s.data.toList=Lib.parseIntB 64 []\/Lib.parseIntB 64 s.data.toList= .range):Calls Tryz.prog 25 #[.string s] w fun e w'=>e= .returned (.tuple #[.int .i64 (rdV s),.bool (rdB s)])/\Below w.heap.size w w':=by
 have e:numL s.data.toList=none:=zHf fun v hv'=>by
  rw [<- Lib.parseIntB_64] at hv'
  rcases hv with h|h
  ·have h2:=h.symm.trans hv'
   cases (show (Lib.parseIntB 64 []).ctorIdx=0 from by rw [h2];rfl)
  ·rw [h] at hv';cases hv'
 have row:∀g,(g,isErr)∈zA8->∃ev,w.cell? ⟨g,0,none⟩=some ev/\(ev= .nilIface\/∃te pe,ev= .iface te pe):=fun g hg=>by
  obtain ⟨c,t,h1,tp,p,rfl⟩:=hI.2 (g,isErr) hg
  exact ⟨.iface tp p,by rw [cell_of_row w g 0 _ t _ h1];rfl,.inr ⟨_,_,rfl⟩⟩
 go_enter Tryz.func25,Tryz.ntmps25
 rcases hv with hv|hv
 ·obtain ⟨ev,r1,r2⟩   := row 2 (by simp [zA8])
  go_wp2_with (first
   | (go_at_call 70;refine (Tryz.strconv_ParseInt_10_at64_syntax _ (by omega) hv ev _ r1 r2).mono ?_;rintro e w' ⟨N,rfl,k1,k2,k3⟩))
  go_ret2
  refine ⟨?_,by assumption⟩
  unfold rdV rdB;rw [e];rfl
 ·obtain ⟨ev,r1,r2⟩:=row 3 (by simp [zA8])
  go_wp2_with (first
   | (go_at_call 70;refine (Tryz.strconv_ParseInt_10_at64_range _ (by omega) hv ev _ r1 r2).mono ?_;rintro e w' ⟨N,rfl,k1,k2,k3⟩))
  go_ret2
  refine ⟨?_,by assumption⟩
  unfold rdV rdB;rw [e];rfl
theorem zEI (s:ByteArray) (w:World) (hI:Inv0 w) (hs:s.size<=2000000):Calls Tryz.prog 25 #[.string s] w fun e w'=>e= .returned (.tuple #[.int .i64 (rdV s),.bool (rdB s)])/\Below w.heap.size w w':=by
 cases hv:Lib.parseIntB 64 s.data.toList
 ·exact zKW s w hI hs _ hv
 ·exact zF1 s w hI hs (.inl (hv.trans (by rfl)))
 ·exact zF1 s w hI hs (.inr hv)
end Go.Proofs.YtkenfaengphiiaaGreatDoor.Tx
namespace Go.Proofs.YtkenfaengphiiaaGreatDoor.Tx
open Go Go.RowKit
open Go.Proofs.YtkenfaengphiiaaGreatDoor.Ev
set_option maxRecDepth 100000
variable [Amb]
def B26:Bod Tryz.prog:=⟨26,Tryz.f26,Tryz.f26.body.getD .skip,Tryz.func26,by kernel_rfl,by kernel_rfl,zav.no _ _⟩
def B73:Bod Tryz.prog:=⟨73,Tryz.f73,Tryz.f73.body.getD .skip,Tryz.func73,by kernel_rfl,by kernel_rfl,zav.no _ _⟩
theorem zGL {α:Type} (c:Bool) (a b:α):(bif c then some a else some b)=some (bif c then a else b):=by cases c<;>rfl
theorem zBs (a b:ByteArray):zcM a b=zcM b a:=by unfold zcM;exact BEq.comm
theorem zFp {a s:ByteArray} (h:zcM a s=true) (b:ByteArray):zcM b a=zcM b s:=by unfold zcM at *;rw [eq_of_beq h]
def kindOf (s:ByteArray):I64:=bif zcM (names.getD 1 ByteArray.empty) s then ⟨1,rfl⟩ else (bif zcM (names.getD 2 ByteArray.empty) s then ⟨2,rfl⟩ else (bif zcM (names.getD 3 ByteArray.empty) s then ⟨3,rfl⟩ else (bif zcM (names.getD 4 ByteArray.empty) s then ⟨4,rfl⟩ else (bif zcM (names.getD 5 ByteArray.empty) s then ⟨5,rfl⟩ else (bif zcM (names.getD 6 ByteArray.empty) s then ⟨6,rfl⟩ else (bif zcM (names.getD 7 ByteArray.empty) s then ⟨7,rfl⟩ else (bif zcM (names.getD 8 ByteArray.empty) s then ⟨8,rfl⟩ else (bif zcM (names.getD 9 ByteArray.empty) s then ⟨9,rfl⟩ else (bif zcM (names.getD 10 ByteArray.empty) s then ⟨10,rfl⟩ else (bif zcM (names.getD 11 ByteArray.empty) s then ⟨11,rfl⟩ else (bif zcM (names.getD 12 ByteArray.empty) s then ⟨12,rfl⟩ else (bif zcM (names.getD 13 ByteArray.empty) s then ⟨13,rfl⟩ else (bif zcM (names.getD 14 ByteArray.empty) s then ⟨14,rfl⟩ else (bif zcM (names.getD 15 ByteArray.empty) s then ⟨15,rfl⟩ else (bif zcM (names.getD 16 ByteArray.empty) s then ⟨16,rfl⟩ else ⟨0,rfl⟩)))))))))))))))
theorem zLb {s:ByteArray} (h:zcM (names.getD 0 ByteArray.empty) s=true):kindOf s=⟨0,rfl⟩:=by
 have e:kindOf s=kindOf (names.getD 0 ByteArray.empty):=by
  unfold kindOf
  simp only [fun b=>zFp h b]
 have e2:kindOf (names.getD 0 ByteArray.empty)=⟨0,rfl⟩:=by kernel_rfl
 exact e.trans e2
def Tb26:Tb Tryz.prog:= {T:= [Y2,Y3,Y9,Y56,Y90],mix:=mix,Es:= [],Bs:= [B73],d:=3}
theorem r26 (s:ByteArray):Tb26.run B26 [enc s] I64=some (kindOf s):=by
 have h:Tb26.run B26 [enc s] I64=bif zcM s (names.getD 0 ByteArray.empty) then some ⟨0,rfl⟩ else (bif zcM s (names.getD 1 ByteArray.empty) then some ⟨1,rfl⟩ else (bif zcM s (names.getD 2 ByteArray.empty) then some ⟨2,rfl⟩ else (bif zcM s (names.getD 3 ByteArray.empty) then some ⟨3,rfl⟩ else (bif zcM s (names.getD 4 ByteArray.empty) then some ⟨4,rfl⟩ else (bif zcM s (names.getD 5 ByteArray.empty) then some ⟨5,rfl⟩ else (bif zcM s (names.getD 6 ByteArray.empty) then some ⟨6,rfl⟩ else (bif zcM s (names.getD 7 ByteArray.empty) then some ⟨7,rfl⟩ else (bif zcM s (names.getD 8 ByteArray.empty) then some ⟨8,rfl⟩ else (bif zcM s (names.getD 9 ByteArray.empty) then some ⟨9,rfl⟩ else (bif zcM s (names.getD 10 ByteArray.empty) then some ⟨10,rfl⟩ else (bif zcM s (names.getD 11 ByteArray.empty) then some ⟨11,rfl⟩ else (bif zcM s (names.getD 12 ByteArray.empty) then some ⟨12,rfl⟩ else (bif zcM s (names.getD 13 ByteArray.empty) then some ⟨13,rfl⟩ else (bif zcM s (names.getD 14 ByteArray.empty) then some ⟨14,rfl⟩ else (bif zcM s (names.getD 15 ByteArray.empty) then some ⟨15,rfl⟩ else (bif zcM s (names.getD 16 ByteArray.empty) then some ⟨16,rfl⟩ else some ⟨0,rfl⟩)))))))))))))))):=by kernel_rfl
 rw [h];simp only [zGL]
 unfold kindOf
 simp only [zBs s]
 cases h0:zcM (names.getD 0 ByteArray.empty) s
 ·rfl
 ·exact congrArg some (zLb h0).symm
def zmy:Ent Tryz.prog:= .of1 Tb26 B26 (fun _=>true) kindOf fun s _=>r26 s
end Go.Proofs.YtkenfaengphiiaaGreatDoor.Tx
namespace Go.Proofs.YtkenfaengphiiaaGreatDoor.Tx
open Go Go.RowKit
open Go.Proofs.YtkenfaengphiiaaGreatDoor.Ev
set_option maxRecDepth 100000
variable [Amb]
theorem zFo {a b:ByteArray} (h:zcM a b=true):a=b:=by
 unfold zcM at h
 have k:=eq_of_beq h
 exact Go.WideShapes.bytes_inj (by first|exact k|rw [<- ByteArray.toList_eq,<- ByteArray.toList_eq];exact k)
theorem zF2 (s:ByteArray): -9223372036854775808<=rdV s/\rdV s<=9223372036854775807:=by
 unfold rdV numL
 cases h:Lib.atoiAll s.data.toList
 ·rename_i v
  have:=Lib.atoiAll_bounds h
  simp only
  split
  ·rename_i x e
   split at e
   ·cases e;omega
   ·cases e
  ·omega
 ·simp
 ·simp
def rdI (s:ByteArray):I64:= .w .i64 (rdV s)
theorem zrj (s:ByteArray):(rdI s).val=rdV s:=wi (zF2 s).1 (zF2 s).2
def B25:Bod Tryz.prog:=⟨25,Tryz.f25,Tryz.f25.body.getD .skip,Tryz.func25,by kernel_rfl,by kernel_rfl,zav.no _ _⟩
def zv8 : Ent Tryz.prog where
  id := 25
  g := fun vs _ => match vs with
    | [.str s] => decide (s.size <= 2000000)
    | _ => false
  fn := fun vs _ => match vs with
    | [.str s] => some (.tup [.i64 (rdI s), .bool (rdB s)])
    | _ => none
  ok := fun vs m v hg hf w0 ρ xs w hv hm => by
    split at hf <;> try (cases hf;done)
    rename_i s
    cases hf
    have hs : s.size <= 2000000 := by simpa using hg
    cases hv with
    | cons h1 t => cases t;cases h1
                   refine zne B25 ((zEI s w hm.invw hs).mono fun e w' he => ?_)
                   obtain ⟨rfl, hb⟩ := he
                   refine ⟨_, rfl, ?_, hb⟩
                   rw [<- zrj]
                   exact .tup (.cons (.i64 _) (.cons (.bool _) .nil))
def wds (s:ByteArray):List ByteArray:=Lib.splitB ⟨#[32]⟩ 0 (Lib.countB s ⟨#[32]⟩) s
def wd (s:ByteArray) (i:Nat):ByteArray:=(wds s).getD i ByteArray.empty
theorem zGw (s:ByteArray):(wds s).length=Lib.countB s ⟨#[32]⟩+1:=Lib.splitB_all _ (by decide) 0 _ s rfl
theorem zzE {s:ByteArray} (h:(wds s).length=5):wds s= [wd s 0,wd s 1,wd s 2,wd s 3,wd s 4]:=by
 unfold wd
 generalize wds s=L at *
 match L,h with
 | [a,b,c,d,e],_=>rfl
theorem zIS {w:World} (h:Inv0 w):∃m:Int,w.cell? ⟨1,0,none⟩=some (.int .i64 m):=by
 obtain ⟨c,t,h1,m,rfl⟩:=h.2 (1,isInt) (by simp [zA8])
 exact ⟨m,by rw [cell_of_row w 1 0 _ t _ h1];rfl⟩
theorem zym (s:ByteArray) (w:World) (hI:Inv0 w) (hs:s.size<=2000000):Calls Tryz.prog 24 #[.string s,.string ⟨#[32]⟩] w fun e w'=>
  e= .returned (.slice (some ⟨w.heap.size,0,none⟩) (wds s).length (wds s).length)/\w'=w.alloc (.cells ((wds s).map Value.string).toArray 9):=by
 obtain ⟨m,hm⟩:=zIS hI
 rw [zGw]
 exact Tryz.strings_Split s ⟨#[32]⟩ m w (by omega) hm (by decide)
def B24:Bod Tryz.prog:=⟨24,Tryz.f24,Tryz.f24.body.getD .skip,Tryz.func24,by kernel_rfl,by kernel_rfl,zav.no _ _⟩
def zBp (s p:ByteArray):Bool:=decide (s.size<=2000000)&&(zcM p ⟨#[32]⟩&&decide ((wds s).length=5))
def zIk : Ent Tryz.prog where
  id := 24
  g := fun _ _ => false
  fn := fun _ _ => none
  ok := fun vs m v hg hf => by cases hf
  nsl := fun vs _ => match vs with
    | [.str s, .str p] => some (zBp s p, [.str (wd s 0), .str (wd s 1), .str (wd s 2), .str (wd s 3), .str (wd s 4)])
    | _ => none
  nslok := fun vs m cs h w0 ρ xs w hv hm => by
    split at h <;> try (cases h;done)
    rename_i s p
    simp only [Option.some.injEq, Prod.mk.injEq] at h
    obtain ⟨hg, rfl⟩ := h
    simp only [zBp, Bool.and_eq_true, decide_eq_true_eq] at hg
    obtain ⟨hs, hp, hl⟩ := hg
    obtain rfl : p = ⟨#[32]⟩ := zFo hp
    refine ⟨(wds s).map Value.string, 9, ?_, ?_⟩
    · rw [zzE hl];exact zBJ ρ [wd s 0, wd s 1, wd s 2, wd s 3, wd s 4]
    · cases hv with
      | cons h1 t => cases t with
        | cons h2 t => cases t;cases h1;cases h2
                       refine zne B24 ((zym s w hm.invw hs).mono fun e w' he => ?_)
                       obtain ⟨rfl, rfl⟩ := he
                       exact ⟨_, rfl, by rw [hl];rfl, rfl⟩
def pjW (s:ByteArray):Proj:=⟨kindOf (wd s 0),rdI (wd s 1),rdI (wd s 2),rdI (wd s 3),rdI (wd s 4)⟩
def p0:Proj:=⟨⟨0,rfl⟩,⟨0,rfl⟩,⟨0,rfl⟩,⟨0,rfl⟩,⟨0,rfl⟩⟩
def Y58:TyE Tryz.prog:=⟨58,4,(.array 4 2 1),(List.replicate 4 (.i64 ⟨0,rfl⟩)),false,by kernel_rfl,by kernel_rfl,by kernel_rfl,by kernel_rfl,by kernel_rfl,by kernel_rfl⟩
def B6:Bod Tryz.prog:=⟨6,Tryz.f6,Tryz.f6.body.getD .skip,Tryz.func6,by kernel_rfl,by kernel_rfl,zav.no _ _⟩
def Tb6:Tb Tryz.prog:= {T:= [Y2,Y3,Y9,Y25,Y56,Y58],mix:=mix,Es:= [zIk,zv8,zmy,zcK,zmk],Bs:= [],d:=1}
def gSz (s:ByteArray) (i:Nat):Bool:=decide ((wd s i).size<=2000000)
theorem r6 (s:ByteArray):Tb6.run B6 [enc s] (T2 Proj Bool)=bif zBp s ⟨#[32]⟩ then (bif gSz s 1 then (bif gSz s 2 then (bif gSz s 3 then (bif gSz s 4 then (bif !(zZ (pjW s)) then some ⟨p0,false⟩ else bif kG (pjW s).kind then (bif !(zcM (txP (pjW s)) s) then some ⟨p0,false⟩ else some ⟨pjW s,true⟩) else none) else none) else none) else none) else none) else none:=by kernel_rfl
end Go.Proofs.YtkenfaengphiiaaGreatDoor.Tx
namespace Go.Proofs.YtkenfaengphiiaaGreatDoor.Tx
open Go Go.RowKit
open Go.Proofs.YtkenfaengphiiaaGreatDoor.Ev
open Go.Lib Go.Proofs.YtkenfaengphiiaaGreatDoor.Rp Go.Proofs.YtkenfaengphiiaaGreatDoor.Pp
set_option maxRecDepth 100000
variable [Amb]
theorem zFQ (s:ByteArray):(wds s).map (·.data.toList)=sp s.data.toList:=by
 unfold wds
 rw [Lib.splitB_data]
 exact zwB s.data.toList
def un (l:List UInt8):List UInt8:=Lib.trimPrefix l [45]
theorem zIn (r:List UInt8):un (45::r)=r:=by simp [un,Lib.trimPrefix,Lib.hasPrefix,List.isPrefixOf]
theorem zIm {c:UInt8} (h:c≠45) (r:List UInt8):un (c::r)=c::r:=by
 have:([45]:List UInt8).isPrefixOf (c::r)=false:=by simp [List.isPrefixOf,Ne.symm h]
 unfold un Lib.trimPrefix Lib.hasPrefix
 rw [this];rfl
theorem zHe {l:List UInt8} {v:Int} (h0: -9223372036854775808<=v) (h1:v<=9223372036854775807) (e:itoa v=l) (hl:(un l).length<=18):numL l=some v:=by
 have a:Lib.atoiAll l= .ok v:=by rw [<- e];exact zDX h0 h1
 rw [zCB a,if_pos ⟨e,hl⟩]
theorem rd_some {s:ByteArray} {v:Int} (h:numL s.data.toList=some v):rdV s=v/\rdB s=true:=by unfold rdV rdB;rw [h];exact ⟨rfl,rfl⟩
theorem zI8 {m:Nat} (h:m<1000000000000000000):(Lib.decDigits m).length<=18:=by
 by_cases hz:m=0
 ·subst hz;rw [zqL (by decide)];decide
 ·rw [<- zJa m hz,List.length_map]
  exact zI9 18 m (by have:(10:Nat)^18=1000000000000000000:=(by decide);omega)
theorem zGx (v:Int):un (Lib.itoa v)=Lib.decDigits v.natAbs:=by
 by_cases hn:v<0
 ·rw [zy2 hn,zIn]
 ·rw [zy1 (by omega),show v.toNat=v.natAbs by omega]
  have hne:=zHW v.natAbs
  have hd:=@zqM v.natAbs
  generalize Lib.decDigits v.natAbs=L at *
  cases L with
  | nil=>exact absurd rfl hne
  | cons c r=>
   refine zIm (fun e=>?_) r
   have:=hd (c:=c) (by simp)
   subst e
   exact absurd this (by decide)
theorem zor {l:List UInt8} {v:Int} (h: -1800000000<=v/\v<=1800000000) (e:Lib.itoa v=l):numL l=some v:=
 zHe (by omega) (by omega) e (by rw [<- e,zGx];exact zI8 (by omega))
theorem zFL (a b:ByteArray):(a++b).data.toList=a.data.toList++b.data.toList:=by
 rw [ByteArray.data_append];simp
def pieces (p:Proj):List (List UInt8):= [(nmK p.kind).data.toList,Lib.itoa p.lat0.val,Lib.itoa p.lon0.val,Lib.itoa p.lat1.val,Lib.itoa p.lat2.val]
theorem zGA (p:Proj):(txP p).data.toList=jn (pieces p):=by
 have e1:sp1.data.toList= [32]:=rfl
 have ed:∀n:I64,(decB n).data.toList=Lib.itoa n.val:=fun n=>by unfold decB;simp
 unfold txP s8 s7 s6 s5 s4 s3 s2 s1
 simp only [zFL,e1,ed]
 simp [pieces,jn,List.append_assoc]
theorem zvx:∀n∈names,(32:UInt8)∉n.data.toList:=by decide +kernel
theorem zyP (k:I64):(32:UInt8)∉(nmK k).data.toList:=by
 unfold nmK
 rcases Nat.lt_or_ge k.val.toNat names.length with h|h
 ·have e:names.getD k.val.toNat ByteArray.empty=names[k.val.toNat]:=by simp [List.getD,h]
  rw [e];exact zvx _ (List.getElem_mem h)
 ·have e:names.getD k.val.toNat ByteArray.empty=ByteArray.empty:=by simp [List.getD,List.getElem?_eq_none h]
  rw [e];simp
theorem zty (p:Proj):∀q∈pieces p,(32:UInt8)∉q:=by
 intro q hq
 simp only [pieces,List.mem_cons,List.not_mem_nil,or_false] at hq
 rcases hq with rfl|rfl|rfl|rfl|rfl
 ·exact zyP _
 all_goals exact zxr _
theorem zB2 (p:Proj):sp (jn (pieces p))=pieces p:=by
 have h:=zty p
 unfold pieces at h ⊢
 exact zIx (nmK p.kind).data.toList _ h
theorem zFU:∀(l:List UInt8),∀q∈sp l,q.length<=l.length
 | [],q,h=>by simp [sp] at h;subst h;simp
 | c::r,q,h=>by
  have ih:=zFU r
  unfold sp at h
  split at h
  ·simp only [List.mem_cons] at h
   rcases h with rfl|h
   ·simp
   ·have:=ih q h;simp;omega
  ·split at h
   ·rename_i p ps e
    simp only [List.mem_cons] at h
    rcases h with rfl|h
    ·have:=ih p (by rw [e];simp);simp;omega
    ·have:=ih q (by rw [e];simp [h]);simp;omega
   ·simp only [List.mem_cons,List.not_mem_nil,or_false] at h
    subst h;simp
theorem zuF {s:ByteArray} (h5:(wds s).length=5) (hs:s.size<=2000000) (i:Nat) (hi:i<5):gSz s i=true:=by
 have hm:wd s i∈wds s:=by
  unfold wd
  have h:i<(wds s).length:=by omega
  have e:(wds s).getD i ByteArray.empty=(wds s)[i]:=by simp [List.getD,h]
  rw [e];exact List.getElem_mem h
 have:=zFU s.data.toList (wd s i).data.toList (by rw [<- zFQ];exact List.mem_map_of_mem hm)
 have e1:s.data.toList.length=s.size:=rfl
 have e2:(wd s i).data.toList.length=(wd s i).size:=rfl
 simp only [gSz,decide_eq_true_eq];omega
theorem zno {p:Proj} (h:zZ p=true):(-1800000000<=p.lat0.val/\p.lat0.val<=1800000000)/\(-1800000000<=p.lon0.val/\p.lon0.val<=1800000000)/\(-1800000000<=p.lat1.val/\p.lat1.val<=1800000000)/\(-1800000000<=p.lat2.val/\p.lat2.val<=1800000000):=by
 simp only [zZ,zcb,zbH,zdC,zdH,zex,Tr.get,zbO] at h
 by_cases h0:1<=p.kind.val/\p.kind.val<=16
 case neg=>simp [h0] at h
 by_cases h1: -900000000<=p.lat0.val/\p.lat0.val<=900000000
 case neg=>simp [h0,h1] at h
 by_cases h2: -1800000000<p.lon0.val
 case neg=>simp [h0,h1,h2] at h
 by_cases h2':p.lon0.val<=1800000000
 case neg=>simp [h0,h1,h2,h2'] at h
 by_cases h3: -890000000<=p.lat1.val/\p.lat1.val<=890000000
 case neg=>simp [h0,h1,h2,h2',h3] at h
 by_cases h4: -890000000<=p.lat2.val/\p.lat2.val<=890000000
 case neg=>simp [h0,h1,h2,h2',h3,h4] at h
 omega
theorem zHx {k:I64} (h:kG k=true):kindOf (nmK k)=k:=by
 rcases zy0 h with rfl|rfl|rfl|rfl|rfl|rfl|rfl|rfl|rfl|rfl|rfl|rfl|rfl|rfl|rfl|rfl<;>kernel_rfl
theorem zEY {k:I64} (h:kG k=true):(nmK k).size<=10:=by
 rcases zy0 h with rfl|rfl|rfl|rfl|rfl|rfl|rfl|rfl|rfl|rfl|rfl|rfl|rfl|rfl|rfl|rfl<;>decide
theorem zGz {p:Proj} (h:kG p.kind=true):(txP p).size<=98:=by
 have:=zEY h
 have da:=zi7 p.lat0
 have db:=zi7 p.lon0
 have dc:=zi7 p.lat1
 have dd:=zi7 p.lat2
 unfold txP s8 s7 s6 s5 s4 s3 s2 s1
 simp only [ByteArray.size_append]
 have e:sp1.size=1:=rfl
 omega
def rpV (s:ByteArray):T2 Proj Bool:=bif !(zZ (pjW s)) then ⟨p0,false⟩ else bif !(zcM (txP (pjW s)) s) then ⟨p0,false⟩ else ⟨pjW s,true⟩
def rpG (s:ByteArray):Bool:=zBp s ⟨#[32]⟩&&(gSz s 1&&(gSz s 2&&(gSz s 3&&gSz s 4)))
theorem zIF (s:ByteArray) (h:rpG s=true):Tb6.run B6 [enc s] (T2 Proj Bool)=some (rpV s):=by
 simp only [rpG,Bool.and_eq_true] at h
 obtain ⟨h0,h1,h2,h3,h4⟩:=h
 rw [r6,h0,h1,h2,h3,h4]
 simp only [cond_true]
 unfold rpV
 cases ok:zZ (pjW s)
 ·rfl
 ·rw [zyZ ok]
  cases zcM (txP (pjW s)) s<;>rfl
theorem zA9 {p:Proj} (h:zZ p=true):rpG (pjB p)=true/\rpV (pjB p)=⟨p,true⟩:=by
 have hk:=zyZ h
 have e:pjB p=txP p:=by unfold pjB;rw [h];rfl
 rw [e]
 have b:=zno h
 have hw:(wds (txP p)).map (·.data.toList)=pieces p:=by rw [zFQ,zGA,zB2]
 have h5:(wds (txP p)).length=5:=by
  have:=congrArg List.length hw
  rw [List.length_map] at this
  exact this
 have hs:=zGz hk
 rw [zzE h5] at hw
 simp only [List.map_cons,List.map_nil,pieces,List.cons.injEq,and_true] at hw
 obtain ⟨w0,w1,w2,w3,w4⟩:=hw
 have g:zBp (txP p) ⟨#[32]⟩=true:=by
  simp only [zBp,Bool.and_eq_true,decide_eq_true_eq]
  exact ⟨by omega,zul _,h5⟩
 refine ⟨?_,?_⟩
 ·unfold rpG
  rw [g,zuF h5 (by omega) 1 (by decide),zuF h5 (by omega) 2 (by decide),zuF h5 (by omega) 3 (by decide),zuF h5 (by omega) 4 (by decide)]
  rfl
 ·have n0:wd (txP p) 0=nmK p.kind:=Go.WideShapes.bytes_inj w0
  have v1:=(rd_some (zor b.1 w1.symm)).1
  have v2:=(rd_some (zor b.2.1 w2.symm)).1
  have v3:=(rd_some (zor b.2.2.1 w3.symm)).1
  have v4:=(rd_some (zor b.2.2.2 w4.symm)).1
  have ej:pjW (txP p)=p:=by
   clear e h hs g h5 w0 w1 w2 w3 w4
   obtain ⟨k,a0,b0,c0,d0⟩:=p
   unfold pjW
   rw [n0,zHx hk]
   have x1:rdI (wd (txP ⟨k,a0,b0,c0,d0⟩) 1)=a0:=Rng.ext (Eq.trans (zrj _) v1)
   have x2:rdI (wd (txP ⟨k,a0,b0,c0,d0⟩) 2)=b0:=Rng.ext (Eq.trans (zrj _) v2)
   have x3:rdI (wd (txP ⟨k,a0,b0,c0,d0⟩) 3)=c0:=Rng.ext (Eq.trans (zrj _) v3)
   have x4:rdI (wd (txP ⟨k,a0,b0,c0,d0⟩) 4)=d0:=Rng.ext (Eq.trans (zrj _) v4)
   rw [x1,x2,x3,x4]
  unfold rpV
  rw [ej,h,zul]
  rfl
end Go.Proofs.YtkenfaengphiiaaGreatDoor.Tx
namespace Go.Proofs.YtkenfaengphiiaaGreatDoor.Ev
open Go Go.RowKit
variable [Amb]
def zeg:Proj->ByteArray:=Tx.pjB
def zf0:Proj->Bool:=fun _=>true
def zm7:Ent Tryz.prog:= .of1 Tx.Tb7 Tx.B7 zf0 zeg fun p _=>Tx.f14 p
def zf3:ByteArray->T2 Proj Bool:=Tx.rpV
def zfZ:ByteArray->Bool:=Tx.rpG
def zm6:Ent Tryz.prog:= .of1 Tx.Tb6 Tx.B6 zfZ zf3 fun s h=>Tx.zIF s h
end Go.Proofs.YtkenfaengphiiaaGreatDoor.Ev
