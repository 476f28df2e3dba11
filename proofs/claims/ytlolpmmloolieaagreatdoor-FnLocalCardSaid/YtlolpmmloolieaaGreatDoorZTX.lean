/- The law FnLocal gives true, whatever bytes come in, where the listed tables hold what the program's text lays. The card: the tables tied to the text. No other conditions. (One of the texts of its proof, put together by a program of this session.) -/
import Derived.Lib.ItoaNum
import Derived.Lib.ItoaMem
import Derived.Lib.Repeat
import Derived.Lib.ParseIntBTie
import Derived.Lib.SplitLaws
import Derived.Lib.SlTrimSet
import Derived.Lib.IndexMore
import Derived.WideShapes
import Derived.Laws.Concat
import Derived.Shelf.Lay
import Derived.Shelf.LaysM
import Derived.Shelf.LaysC
import Derived.Shelf.Strconv.Itoa4
import Derived.Shelf.Strconv.ParseIntPublic10
import Derived.Shelf.Strings.BuilderX
import Derived.Shelf.Strings.Repeat
import Derived.Shelf.Strings.Prefix
import Derived.Shelf.Strings.Cut
import Derived.Shelf.Strings.LastIndex
import Derived.Shelf.Strings.SlTrimAscii
import Derived.Ground.NamesProg
import Derived.Test.YtlolpmmloolieaaGreatDoorProg
import Derived.Test.YtlolpmmloolieaaGreatDoorChecked
import Derived.Lib.LaidTab
import Derived.KernelRfl
import Derived.Tactics
import Derived.WalkKit
import Derived.Laws.IdiomStrings
set_option linter.unusedSectionVars false
set_option linter.unusedSimpArgs false
set_option linter.unusedVariables false
noncomputable section
namespace Go.Proofs.YtlolpmmloolieaaGreatDoor.Rp
open Go Go.Lib
theorem dd_small {u:Nat} (h:u<10):decDigits u= [UInt8.ofNat (48+u)]:=by rw [decDigits,dif_pos h]
theorem dd_big {u:Nat} (h:¬u<10):decDigits u=decDigits (u/10) ++ [UInt8.ofNat (48+u%10)]:=by rw [decDigits,dif_neg h]
theorem byte_val {d:Nat} (h:d<10):(UInt8.ofNat (48+d)).toNat=48+d:=by
 rw [UInt8.toNat_ofNat'];omega
theorem dd_byte:∀(n u:Nat),u<n->∀c∈decDigits u,48<=c.toNat/\c.toNat<=57
 | 0,_,h,_,_=>by omega
 | n+1,u,h,c,hc=>by
  by_cases k:u<10
  ·rw [dd_small k] at hc
   simp only [List.mem_cons,List.not_mem_nil,or_false] at hc
   subst hc;rw [byte_val k];omega
  ·rw [dd_big k,List.mem_append] at hc
   rcases hc with hc|hc
   ·exact dd_byte n (u/10) (by omega) c hc
   ·simp only [List.mem_cons,List.not_mem_nil,or_false] at hc
    subst hc;rw [byte_val (by omega)];omega
theorem dd_digit {u:Nat} {c:UInt8} (h:c∈decDigits u):48<=c.toNat/\c.toNat<=57:=dd_byte (u+1) u (by omega) c h
theorem dd_ne (u:Nat):decDigits u ≠ []:=by
 by_cases k:u<10
 ·rw [dd_small k];simp
 ·rw [dd_big k];simp
def val:Nat->List UInt8->Nat
 | a,[]=>a
 | a,c::r=>val (a*10+(c.toNat-48)) r
theorem val_app:∀(l r:List UInt8) (a:Nat),val a (l++r)=val (val a l) r
 | [],r,a=>rfl
 | c::l,r,a=>val_app l r _
theorem val_dd:∀(n u:Nat),u<n->val 0 (decDigits u)=u
 | 0,_,h=>by omega
 | n+1,u,h=>by
  by_cases k:u<10
  ·rw [dd_small k]
   show 0*10+((UInt8.ofNat (48+u)).toNat-48)=u
   rw [byte_val k];omega
  ·rw [dd_big k,val_app,val_dd n (u/10) (by omega)]
   show u/10*10+((UInt8.ofNat (48+u%10)).toNat-48)=u
   rw [byte_val (by omega)];omega
theorem parse_app:∀(l r:List UInt8) (a v:Nat),parseUint10 a l= .ok v->parseUint10 a (l++r)=parseUint10 v r
 | [],r,a,v,h=>by
  simp only [parseUint10] at h
  injection h with h
  subst h;rfl
 | c::l,r,a,v,h=>by
  simp only [parseUint10,List.cons_append] at h ⊢
  split at h
  ·rename_i h1
   rw [if_pos h1]
   split at h
   ·cases h
   ·rename_i h2
    rw [if_neg h2]
    split at h
    ·cases h
    ·rename_i h3
     rw [if_neg h3]
     exact parse_app l r _ v h
  ·cases h
theorem parse_dd:∀(n u:Nat),u<n->u<18446744073709551616->parseUint10 0 (decDigits u)= .ok u
 | 0,_,h,_=>by omega
 | n+1,u,h,hb=>by
  by_cases k:u<10
  ·rw [dd_small k]
   have e:=byte_val k
   simp only [parseUint10,e]
   rw [if_pos (by omega),if_neg (by omega),if_neg (by omega)]
   congr 1;omega
  ·have e:=byte_val (show u%10<10 by omega)
   rw [dd_big k,parse_app _ _ _ _ (parse_dd n (u/10) (by omega) (by omega))]
   simp only [parseUint10,e]
   rw [if_pos (by omega),if_neg (by omega),if_neg (by omega)]
   congr 1;omega
theorem mag_dd {u:Nat} (h:u<18446744073709551616):parseMag (decDigits u)= .ok u:=by
 unfold parseMag
 rw [if_neg (dd_ne u),parse_dd (u+1) u (by omega) h]
theorem itoa_nn {v:Int} (h:0<=v):itoa v=decDigits v.toNat:=by unfold itoa;rw [if_neg (by omega)]
theorem itoa_ng {v:Int} (h:v<0):itoa v=45::decDigits v.natAbs:=by unfold itoa;rw [if_pos h]
theorem atoi_itoa {v:Int} (h0: -9223372036854775808<=v) (h1:v<=9223372036854775807):atoiAll (itoa v)= .ok v:=by
 by_cases hn:v<0
 ·rw [itoa_ng hn,atoiAll_minus,mag_dd (by omega)]
  simp only [signed]
  rw [if_neg (by omega)]
  congr 1;omega
 ·rw [itoa_nn (by omega)]
  have hne:=dd_ne v.toNat
  have hd:=@dd_digit v.toNat
  have hm:=mag_dd (u:=v.toNat) (by omega)
  generalize decDigits v.toNat=l at *
  cases l with
  | nil=>exact absurd rfl hne
  | cons c r=>
   have:=hd (c:=c) (by simp)
   rw [atoiAll_plain c r (by omega) (by omega),hm]
   simp only [signless]
   rw [if_neg (by omega)]
   congr 1;omega
theorem itoa_noblank (v:Int):(32:UInt8)∉itoa v:=by
 intro h
 by_cases hn:v<0
 ·rw [itoa_ng hn,List.mem_cons] at h
  rcases h with h|h
  ·exact absurd h (by decide)
  ·have:=dd_digit h;exact absurd this (by decide)
 ·rw [itoa_nn (by omega)] at h
  have:=dd_digit h;exact absurd this (by decide)
end Go.Proofs.YtlolpmmloolieaaGreatDoor.Rp
namespace Go.Proofs.YtlolpmmloolieaaGreatDoor.Pp
open Go Go.RowKit
theorem ba_mk (a b:List UInt8):(⟨a.toArray⟩:ByteArray)++⟨b.toArray⟩=⟨(a++b).toArray⟩:=by
 rw [ByteArray.mk_append_mk]
def pad:Nat->Nat->List UInt8
 | 0,_=> []
 | d+1,m=>pad d (m/10) ++ [UInt8.ofNat (48+m%10)]
theorem rep_snoc (c:Nat):Lib.repeatL [48] c ++ [48]=Lib.repeatL [48] (c+1):=by
 induction c with
 | zero=>rfl
 | succ c ih=>
  show ([48]++Lib.repeatL [48] c) ++ [48]= [48]++Lib.repeatL [48] (c+1)
  rw [List.append_assoc,ih]
theorem pad_dec:∀(d m:Nat),m<10^(d+1)->(Lib.decDigits m).length<=d+1/\pad (d+1) m=Lib.repeatL [48] (d+1-(Lib.decDigits m).length)++Lib.decDigits m:=by
 intro d
 induction d with
 | zero=>
  intro m h
  have h1:m<10:=by simpa using h
  rw [Lib.decDigits,dif_pos h1]
  refine ⟨by simp,?_⟩
  simp only [pad,List.nil_append,List.length_singleton,show m%10=m by omega]
  rfl
 | succ d ih=>
  intro m h
  obtain ⟨i1,i2⟩:=ih (m/10) (by rw [Nat.pow_succ] at h;omega)
  show (Lib.decDigits m).length<=d+1+1/\pad (d+1) (m/10) ++ [UInt8.ofNat (48+m%10)]=_
  by_cases h1:m<10
  ·have hz:m/10=0:=by omega
   rw [i2,hz]
   have e0:Lib.decDigits 0= [48]:=Lib.decDigits_one (by decide)
   have e1:Lib.decDigits m= [UInt8.ofNat (48+m)]:=Lib.decDigits_one h1
   rw [e0,e1]
   refine ⟨by simp,?_⟩
   simp only [List.length_singleton,Nat.add_sub_cancel,show m%10=m by omega]
   rw [rep_snoc d]
  ·rw [Lib.decDigits,dif_neg h1]
   refine ⟨by simp;omega,?_⟩
   rw [i2,List.length_append,List.length_singleton,List.append_assoc,show d+1+1-((Lib.decDigits (m/10)).length+1)=d+1-(Lib.decDigits (m/10)).length by omega]
theorem itoa_len (n:Int) (h0: -9223372036854775808<=n) (h1:n<=9223372036854775807):(Lib.itoa n).length<=21:=by
 have key:∀m:Nat,m<=9223372036854775808->(Lib.decDigits m).length<=20:=fun m hm=>(pad_dec 19 m (by omega)).1
 unfold Lib.itoa
 split
 ·have:=key n.natAbs (by omega);simp;omega
 ·have:=key n.toNat (by omega);omega
end Go.Proofs.YtlolpmmloolieaaGreatDoor.Pp
namespace Go.Proofs.YtlolpmmloolieaaGreatDoor.Rq
open Go Go.RowKit Go.Lib Go.Proofs.YtlolpmmloolieaaGreatDoor.Rp
def numL (l:List UInt8):Option Int:=match Lib.atoiAll l with
 | .ok v=>if Lib.itoa v=l/\(Lib.trimPrefix l [45]).length<=18 then some v else none
 | _=>none
def rdV (s:ByteArray):Int:=match numL s.data.toList with
 | some v=>v
 | none=>0
def rdB (s:ByteArray):Bool:=(numL s.data.toList).isSome
theorem numL_ok {l:List UInt8} {v:Int} (h:Lib.atoiAll l= .ok v):numL l=if Lib.itoa v=l/\(Lib.trimPrefix l [45]).length<=18 then some v else none:=by
 unfold numL;rw [h]
theorem numL_no {l:List UInt8} (h:∀v,Lib.atoiAll l ≠ .ok v):numL l=none:=by
 unfold numL
 split
 ·rename_i v e;exact absurd e (h v)
 ·rfl
theorem rdV_bd (s:ByteArray): -9223372036854775808<=rdV s/\rdV s<=9223372036854775807:=by
 unfold rdV numL
 cases h:Lib.atoiAll s.data.toList
 ·rename_i v
  have:=Lib.atoiAll_bounds h
  simp only
  split
  ·rename_i x e
   split at e
   ·cases e;omega
   ·cases e
  ·omega
 ·simp
 ·simp
theorem wid {n:Int} (h: -9223372036854775808<=n) (k:n<=9223372036854775807):wrap64 n=n:=by unfold wrap64;omega
def zfU (c:UInt8):Bool:=decide (48<=c.toNat)&&decide (c.toNat<=57)
def un (l:List UInt8):List UInt8:=Lib.trimPrefix l [45]
theorem un_neg (r:List UInt8):un (45::r)=r:=by simp [un,Lib.trimPrefix,Lib.hasPrefix,List.isPrefixOf]
theorem un_pos {c:UInt8} (h:c≠45) (r:List UInt8):un (c::r)=c::r:=by
 have:([45]:List UInt8).isPrefixOf (c::r)=false:=by simp [List.isPrefixOf,Ne.symm h]
 unfold un Lib.trimPrefix Lib.hasPrefix
 rw [this];rfl
theorem dd_all (u:Nat):(decDigits u).all zfU=true:=by
 rw [List.all_eq_true]
 intro c hc
 have:=dd_digit hc
 simp [zfU,this.1,this.2]
theorem numL_some {l:List UInt8} {v:Int} (h:numL l=some v):l=itoa v/\(un l).length<=18/\un l=decDigits v.natAbs/\(-9223372036854775808<=v/\v<=9223372036854775807):=by
 unfold numL at h
 split at h
 ·rename_i x e
  split at h
  ·rename_i hh
   cases h
   have b:=Lib.atoiAll_bounds e
   refine ⟨hh.1.symm,hh.2,?_,by omega⟩
   rw [<- hh.1]
   by_cases hn:v<0
   ·rw [itoa_ng hn,un_neg]
   ·rw [itoa_nn (by omega),show v.toNat=v.natAbs by omega]
    have hne:=dd_ne v.natAbs
    have hd:=@dd_digit v.natAbs
    generalize decDigits v.natAbs=L at *
    cases L with
    | nil=>exact absurd rfl hne
    | cons c r=>
     refine un_pos (fun e=>?_) r
     have:=hd (c:=c) (by simp)
     subst e
     exact absurd this (by decide)
  ·cases h
 ·cases h
theorem numL_of {l:List UInt8} {v:Int} (h0: -9223372036854775808<=v) (h1:v<=9223372036854775807) (e:itoa v=l) (hl:(un l).length<=18):numL l=some v:=by
 have a:Lib.atoiAll l= .ok v:=by rw [<- e];exact atoi_itoa h0 h1
 rw [numL_ok a,if_pos ⟨e,hl⟩]
theorem rd_some {s:ByteArray} {v:Int} (h:numL s.data.toList=some v):rdV s=v/\rdB s=true:=by unfold rdV rdB;rw [h];exact ⟨rfl,rfl⟩
theorem val_lt:∀(l:List UInt8) (a b:Nat),l.all zfU=true->a<10^b->val a l<10^(b+l.length)
 | [],a,b,_,h=>h
 | c::l,a,b,h,ha=>by
  simp only [List.all_cons,Bool.and_eq_true] at h
  have hc:48<=c.toNat/\c.toNat<=57:=by simpa [zfU] using h.1
  have:=val_lt l (a*10+(c.toNat-48)) (b+1) h.2 (by rw [Nat.pow_succ];omega)
  rw [show b+(c::l).length=b+1+l.length by simp;omega]
  exact this
end Go.Proofs.YtlolpmmloolieaaGreatDoor.Rq
namespace Go.Proofs.YtlolpmmloolieaaGreatDoor.Rt
open Go Go.RowKit Go.Lib Go.Proofs.YtlolpmmloolieaaGreatDoor.Rq Go.Proofs.YtlolpmmloolieaaGreatDoor.Rp
structure Aside (p:Prop):Prop where
 out:p
def digB:List UInt8:= [48,49,50,51,52,53,54,55,56,57]
theorem digB_dig:∀c:UInt8,digB.contains c=zfU c:=by
 have h:∀n:Fin 256,digB.contains (UInt8.ofNat n.val)=zfU (UInt8.ofNat n.val):=by decide +kernel
 intro c
 have:=h ⟨c.toNat,c.toNat_lt⟩
 simpa using this
theorem dw_nil {p:UInt8->Bool} {l:List UInt8} (h:l.all p=true):l.dropWhile p= []:=by
 induction l with
 | nil=>rfl
 | cons a l ih=>
  simp only [List.all_cons,Bool.and_eq_true] at h
  rw [List.dropWhile_cons_of_pos h.1];exact ih h.2
theorem dw_all {p:UInt8->Bool}:∀ {l:List UInt8},l.dropWhile p= []->l.all p=true
 | [],_=>rfl
 | a::l,h=>by
  by_cases k:p a=true
  ·rw [List.dropWhile_cons_of_pos k] at h
   simp [k,dw_all h]
  ·rw [List.dropWhile_cons_of_neg k] at h;cases h
theorem dw_idem {p:UInt8->Bool}:∀ {l:List UInt8},(l.dropWhile p).all p=true->l.dropWhile p= []
 | [],_=>rfl
 | a::l,h=>by
  by_cases k:p a=true
  ·rw [List.dropWhile_cons_of_pos k] at h ⊢;exact dw_idem h
  ·rw [List.dropWhile_cons_of_neg k] at h
   simp only [List.all_cons,Bool.and_eq_true] at h
   exact absurd h.1 k
theorem trim_all (l:List UInt8):trimS l digB= []↔l.all zfU=true:=by
 have e:(fun c=>digB.contains c)=zfU:=funext digB_dig
 unfold trimS trimLeftS trimRightS
 rw [e]
 constructor
 ·intro h
  have h1:=dw_all h
  rw [List.all_reverse] at h1
  have h2:=dw_all (dw_idem h1)
  rwa [List.all_reverse] at h2
 ·intro h
  have h1:l.reverse.dropWhile zfU= []:=dw_nil (by rwa [List.all_reverse])
  rw [h1];rfl
theorem ix_nil (c:UInt8):index [] [c]= -1:=by simp [index]
theorem ix_eq (c:UInt8) (l:List UInt8):index (c::l) [c]=0:=by simp [index]
theorem ix_ne {c b:UInt8} (h:b≠c) (l:List UInt8):index (b::l) [c]=if index l [c] == -1 then -1 else index l [c]+1:=by
 have:([c]:List UInt8).isPrefixOf (b::l)=false:=by simp [List.isPrefixOf,Ne.symm h]
 rw [index,this];rfl
theorem ix_nn (c:UInt8) (s:List UInt8):index s [c]= -1\/∃i:Nat,index s [c]=i:=by
 rcases index_spec s [c] with h|⟨i,h,_⟩
 ·exact .inl h.1
 ·exact .inr ⟨i,h⟩
theorem cut_nil (c:UInt8):cut [] [c]=([],[],false):=by unfold cut;rw [ix_nil];rfl
theorem cut_eq (c:UInt8) (l:List UInt8):cut (c::l) [c]=([],l,true):=by unfold cut;rw [ix_eq];simp
theorem cut_ne {c b:UInt8} (h:b≠c) (l:List UInt8):cut (b::l) [c]=(b::(cut l [c]).1,(cut l [c]).2):=by
 unfold cut
 rw [ix_ne h]
 rcases ix_nn c l with e|⟨i,e⟩
 ·rw [e];simp
 ·rw [e]
  have n1:(((i:Int) == -1)=true)=False:=by simp
  simp only [n1,if_false]
  rw [if_pos (by omega),if_pos (by omega)]
  have t1:((i:Int)+1).toNat=i+1:=by omega
  rw [t1]
  simp [Nat.add_right_comm]
theorem cut_word {c:UInt8}:∀(w r:List UInt8),c∉w->cut (w++c::r) [c]=(w,r,true)
 | [],r,_=>cut_eq c r
 | b::w,r,h=>by
  have hb:b≠c:=fun e=>h (by rw [e];simp)
  rw [List.cons_append,cut_ne hb,cut_word w r (fun k=>h (List.mem_cons_of_mem _ k))]
theorem cut_spec (c:UInt8):∀l:List UInt8,((cut l [c]).2.2=true/\l=(cut l [c]).1++c::(cut l [c]).2.1)\/((cut l [c]).2.2=false/\(cut l [c]).1=l/\(cut l [c]).2.1= [])
 | []=> .inr (by rw [cut_nil];exact ⟨rfl,rfl,rfl⟩)
 | b::l=>by
  by_cases h:b=c
  ·subst h;rw [cut_eq];exact .inl ⟨rfl,rfl⟩
  ·rw [cut_ne h]
   rcases cut_spec c l with ⟨h1,h2⟩|⟨h1,h2,h3⟩
   ·exact .inl ⟨h1,by rw [List.cons_append,<- h2]⟩
   ·exact .inr ⟨h1,by rw [h2],h3⟩
theorem cut_len (c:UInt8) (l:List UInt8):(cut l [c]).1.length<=l.length/\(cut l [c]).2.1.length<=l.length:=by
 rcases cut_spec c l with ⟨h1,h2⟩|⟨h1,h2,h3⟩
 ·have:=congrArg List.length h2
  rw [List.length_append,List.length_cons] at this
  omega
 ·rw [h2,h3];exact ⟨Nat.le_refl _,Nat.zero_le _⟩
def padL (x:Int):List UInt8:=Lib.repeatL [48] (7-(Lib.itoa x).length)++Lib.itoa x
def absL (m:Int):List UInt8:=Lib.itoa (m.tdiv 10000000)++46::padL (m.tmod 10000000)
def dgL (n:Int):List UInt8:=if n<0 then 45::absL (-n) else absL n
theorem rep_len (c:Nat):(Lib.repeatL [48] c).length=c:=by
 induction c with
 | zero=>rfl
 | succ c ih=>show ([48]++Lib.repeatL [48] c).length=c+1;rw [List.length_append,ih];simp;omega
theorem rep_all (c:Nat):(Lib.repeatL [48] c).all zfU=true:=by
 induction c with
 | zero=>rfl
 | succ c ih=>show ([48]++Lib.repeatL [48] c).all zfU=true;rw [List.all_append,ih];rfl
theorem itoa_le (d x:Nat) (h:x<10^(d+1)):(Lib.itoa (x:Int)).length<=d+1:=by
 rw [Rp.itoa_nn (by omega)]
 exact (Pp.pad_dec d x h).1
theorem itoa_dig (x:Nat):(Lib.itoa (x:Int)).all zfU=true:=by
 rw [Rp.itoa_nn (by omega)];exact dd_all x
theorem itoa_ne (x:Nat):Lib.itoa (x:Int) ≠ []:=by rw [Rp.itoa_nn (by omega)];exact dd_ne x
theorem val_rep (c:Nat):val 0 (Lib.repeatL [48] c)=0:=by
 induction c with
 | zero=>rfl
 | succ c ih=>exact ih
theorem val_cons (a:Nat) (c:UInt8) (l:List UInt8):val a (c::l)=val (a*10+(c.toNat-48)) l:=by exact rfl
theorem val_lin:∀(l:List UInt8) (a:Nat),val a l=a*10^l.length+val 0 l
 | [],a=>by
  have e:a*10^([]:List UInt8).length=a:=Nat.mul_one a
  rw [e];rfl
 | c::l,a=>by
  have e1:=val_lin l (a*10+(c.toNat-48))
  have e2:=val_lin l (0*10+(c.toNat-48))
  rw [val_cons,val_cons,List.length_cons,e1,e2,Nat.pow_succ,Nat.add_mul,Nat.zero_mul,Nat.zero_add,Nat.mul_assoc,Nat.mul_comm 10,Nat.add_assoc]
theorem val_itoa (x:Nat):val 0 (Lib.itoa (x:Int))=x:=by
 rw [Rp.itoa_nn (by omega)];exact val_dd (x+1) x (by omega)
theorem padL_facts (r:Nat) (h:r<10000000):(padL r).length=7/\(padL r).all zfU=true/\∀a,val a (padL r)=a*10000000+r:=by
 have hl:(Lib.itoa (r:Int)).length<=7:=itoa_le 6 r (by omega)
 have e7:(padL r).length=7:=by unfold padL;rw [List.length_append,rep_len];omega
 refine ⟨e7,by unfold padL;rw [List.all_append,rep_all,itoa_dig];rfl,fun a=>?_⟩
 rw [val_lin,e7]
 unfold padL
 rw [val_app,val_rep,val_itoa]
theorem absL_nat (M:Nat):absL (M:Int)=Lib.itoa ((M/10000000:Nat):Int)++46::padL ((M%10000000:Nat):Int):=by
 unfold absL
 rw [Int.tdiv_eq_ediv_of_nonneg (by omega),Int.tmod_eq_emod_of_nonneg (by omega)]
 rfl
theorem dig_not {l:List UInt8} (h:l.all zfU=true) {c:UInt8} (hc:zfU c=false):c∉l:=fun k=>by
 have:=List.all_eq_true.1 h c k
 rw [hc] at this;cases this
theorem un_dig {l:List UInt8} (h:l.all zfU=true):un l=l:=by
 cases l with
 | nil=>rfl
 | cons c r=>
  refine un_pos (fun e=>?_) r
  subst e
  simp [zfU] at h
theorem dgL_cut (n:Int) (h0: -10000000000000000<n) (h1:n<10000000000000000):∃U P:List UInt8,((-10000000000<n/\n<10000000000)->U.length<=3)/\U.all zfU=true/\P.all zfU=true/\1<=U.length/\U.length<=9/\P.length=7/\val 0 (U++P)=n.natAbs /\
  cut (dgL n) [46]=((if n<0 then 45::U else U),P,true)/\dgL n=(if n<0 then 45::U else U)++46::P:=by
 obtain ⟨M,hM⟩:∃M:Nat,n.natAbs=M:=⟨_,rfl⟩
 have hM1:M<10000000000000000:=by omega
 have hq:M/10000000<10^(8+1):=by
  show M/10000000<1000000000
  omega
 obtain ⟨p1,p2,p3⟩:=padL_facts (M%10000000) (by omega)
 have ud:=itoa_dig (M/10000000)
 have une:=itoa_ne (M/10000000)
 have ul:=itoa_le 8 (M/10000000) hq
 refine ⟨Lib.itoa ((M/10000000:Nat):Int),padL ((M%10000000:Nat):Int),fun h=>itoa_le 2 (M/10000000) (by show M/10000000<1000;omega),ud,p2,by have:=List.length_pos_iff.2 une;omega,ul,p1,?_,?_,?_⟩
 ·rw [val_app,val_itoa,p3,hM];omega
 ·unfold dgL
  by_cases hn:n<0
  ·rw [if_pos hn,if_pos hn,show -n=(M:Int) by omega,absL_nat,<- List.cons_append]
   refine cut_word _ _ (fun k=>?_)
   rw [List.mem_cons] at k
   rcases k with k|k
   ·exact absurd k (by decide)
   ·exact dig_not ud (by decide) k
  ·rw [if_neg hn,if_neg hn,show n=(M:Int) by omega,absL_nat]
   exact cut_word _ _ (dig_not ud (by decide))
 ·unfold dgL
  by_cases hn:n<0
  ·rw [if_pos hn,if_pos hn,show -n=(M:Int) by omega,absL_nat];rfl
  ·rw [if_neg hn,if_neg hn,show n=(M:Int) by omega,absL_nat]
theorem dgL_noblank (n:Int) (h0: -10000000000000000<n) (h1:n<10000000000000000):(32:UInt8)∉dgL n:=by
 obtain ⟨U,P,_,u,p,_,_,_,_,_,e⟩:=dgL_cut n h0 h1
 rw [e]
 have a1:=dig_not u (c:=32) (by decide)
 have a2:=dig_not p (c:=32) (by decide)
 intro k
 rw [List.mem_append,List.mem_cons] at k
 rcases k with k|k|k
 ·split at k
  ·rw [List.mem_cons] at k
   rcases k with k|k
   ·exact absurd k (by decide)
   ·exact a1 k
  ·exact a1 k
 ·exact absurd k (by decide)
 ·exact a2 k
theorem dgL_inj {n m:Int} (n0: -10000000000000000<n) (n1:n<10000000000000000) (m0: -10000000000000000<m) (m1:m<10000000000000000) (h:dgL n=dgL m):n=m:=by
 obtain ⟨U,P,_,u,p,u1,u9,p7,hv,hc,_⟩:=dgL_cut n n0 n1
 obtain ⟨U',P',_,u',p',u1',u9',p7',hv',hc',_⟩:=dgL_cut m m0 m1
 rw [h,hc'] at hc
 simp only [Prod.mk.injEq,and_true] at hc
 obtain ⟨e1,e2⟩:=hc
 subst e2
 have no:∀ {V:List UInt8},V.all zfU=true->∀V',V≠45::V':=fun hV V' e=>by rw [e] at hV;simp [zfU] at hV
 by_cases hn:n<0<;>by_cases hm:m<0
 ·rw [if_pos hn,if_pos hm] at e1
  injection e1 with _ e1
  subst e1
  omega
 ·rw [if_pos hn,if_neg hm] at e1
  exact absurd e1 (no u' _)
 ·rw [if_neg hn,if_pos hm] at e1
  exact absurd e1.symm (no u _)
 ·rw [if_neg hn,if_neg hm] at e1
  subst e1
  omega
end Go.Proofs.YtlolpmmloolieaaGreatDoor.Rt
namespace Go.Proofs
open Go.Shelf
shelf_lay Lays.n160 Nm 160 at Tryz as Tryz.lays160
shelf_lay LaysM.n173 Nm 173 at Tryz as Tryz.laysM173
open Go.RowKit Go.Sort Go.Lib in
theorem Tryz.strconv_FormatInt_10 (n : Int) (h0 : -9223372036854775808 <= n) (h1 : n <= 9223372036854775807) (w : World) (htab : Lib.TabIs Tryz.prog w "internal/strconv.uint64pow10" .u64 Lib.pow10Tab) :
  Calls Tryz.prog 88 #[.int .i64 n,.int .i64 10] w fun e w'=>e= .returned (.string ⟨(Lib.itoa n).toArray⟩)/\∃k os,w'=grow (w.drewN k) os:=Any.strconv_FormatInt_10 Tryz.laysM173 n h0 h1 w htab
shelf_lay LaysC.n174 Nm 174 at Tryz as Tryz.laysC174
open Go.RowKit in
theorem Tryz.strconv_ParseInt_10_at64_ok (s:ByteArray) (hmax:s.size<=9223372036854775806) (v:Int) (h:Lib.parseIntB 64 s.data.toList= .ok v) (w:World):
  Calls Tryz.prog 85 #[.string s,.int .i64 10,.int .i64 64] w fun e w'=>e= .returned (.tuple #[.int .i64 v,.nilIface])/\(w'=w\/∃t,w'=Lib.bytesWorld w 5 t):=Any.strconv_ParseInt_10_at64_ok Tryz.laysC174 s hmax v h w
open Go.RowKit in
theorem Tryz.strconv_ParseInt_10_at64_syntax (s:ByteArray) (hlim:s.size<=281474976710656) (h:Lib.parseIntB 64 s.data.toList=Lib.parseIntB 64 []) (ev:Value) (w:World) (hv:w.cell? ⟨1,0,none⟩=some ev) (hev:ev= .nilIface\/∃te pe,ev= .iface te pe):
  Calls Tryz.prog 85 #[.string s,.int .i64 10,.int .i64 64] w fun e w'=>∃N,e= .returned (.tuple #[.int .i64 (0),.iface 136 (.pointer (some ⟨N,0,none⟩))])/\w.heap.size<=N/\w'.heap[N]?=some (.cells #[.string ⟨#[80,97,114,115,101,73,110,116]⟩,.string s,ev] 163 (0,0))/\Below w.heap.size w w':=Any.strconv_ParseInt_10_at64_syntax Tryz.laysC174 s hlim (h.trans (by rfl)) ev w hv hev
open Go.RowKit in
theorem Tryz.strconv_ParseInt_10_at64_range (s:ByteArray) (hlim:s.size<=281474976710656) (h:Lib.parseIntB 64 s.data.toList= .range) (ev:Value) (w:World) (hv:w.cell? ⟨2,0,none⟩=some ev) (hev:ev= .nilIface\/∃te pe,ev= .iface te pe):
  Calls Tryz.prog 85 #[.string s,.int .i64 10,.int .i64 64] w fun e w'=>∃N,e= .returned (.tuple #[.int .i64 (Lib.intSat 64 s.data.toList),.iface 136 (.pointer (some ⟨N,0,none⟩))])/\w.heap.size<=N/\w'.heap[N]?=some (.cells #[.string ⟨#[80,97,114,115,101,73,110,116]⟩,.string s,ev] 163 (0,0))/\Below w.heap.size w w':=Any.strconv_ParseInt_10_at64_range Tryz.laysC174 s hlim h ev w hv hev
shelf_lay Lays.n145 Nm 145 at Tryz as Tryz.lays145
open Go.RowKit Go.Lib in
theorem Tryz.strings_Cut (s sep:ByteArray) (m:Int) (w:World) (hs:s.size<4294967281) (hm:w.cell? ⟨0,0,none⟩=some (.int .i64 m)):
  Calls Tryz.prog 83 #[.string s,.string sep] w fun e w'=>e= .returned (.tuple #[.string ⟨(Lib.cut s.data.toList sep.data.toList).1.toArray⟩,.string ⟨(Lib.cut s.data.toList sep.data.toList).2.1.toArray⟩,.bool (Lib.cut s.data.toList sep.data.toList).2.2])/\∃n,w'=w.drewN n:=Any.strings_Cut Tryz.lays145 s sep m w hs hm
shelf_lay Lays.n149 Nm 149 at Tryz as Tryz.lays149
open Go.RowKit Go.Lib in
theorem Tryz.strings_LastIndexByte (s:ByteArray) (c:Int) (hs:s.size<4611686018427387904) (w:World):
  Calls Tryz.prog 39 #[.string s,.int .u8 c] w fun e w'=>e= .returned (.int .i64 (Lib.lastIndexByte s c))/\w'=w:=Any.strings_LastIndexByte Tryz.lays149 s c hs w
shelf_lay Lays.n101 Nm 101 at Tryz as Tryz.lays101
open Go.RowKit Go.Lib in
theorem Tryz.strings_TrimPrefix (s p:ByteArray) (w:World):
  Calls Tryz.prog 86 #[.string s,.string p] w fun e w'=>e= .returned (.string ⟨(Lib.trimPrefix s.data.toList p.data.toList).toArray⟩)/\w'=w:=Any.strings_TrimPrefix Tryz.lays101 s p w
shelf_lay Lays.n105 Nm 105 at Tryz as Tryz.lays105
theorem Tryz.Builder_Extra_105:Builder.Extra Tryz.prog Tryz.lays105_ren where
 sizeBuilder:=by kernel_rfl
 liesBuilder:=by kernel_rfl
 t5:=Tryz.underlying5
 a5:=Tryz.isAgg5
 z5:=Tryz.sizeOf5
 v5:=Tryz.zeroValue5
 infoByte:=by kernel_rfl
 cellsByte:=by kernel_rfl
 sizeByte:=by kernel_rfl
 neB5:=by decide
open Go.RowKit Go.Lib in
theorem Tryz.strings_Repeat (s:ByteArray) (c:Nat) (w:World) (hc:c<=9223372036854775807) (hlen:s.size*c<=140737488355328):
  Calls Tryz.prog 152 #[.string s,.int .i64 c] w fun e w'=>e= .returned (.string ⟨(Lib.repeatL s.data.toList c).toArray⟩)/\Below w.heap.size w w':=Any.strings_Repeat Tryz.lays105 Tryz.Builder_Extra_105 s c w hc hlen
open Go.RowKit Go.Lib in
theorem Tryz.strings_Trim (s cutset:ByteArray) (w:World) (hs:s.size<=9223372036854775807) (hcs:cutset.size<4294967281) (hascii:∀(j:Nat) b,cutset.data.toList[j]?=some b->b.toNat<128):
  Calls Tryz.prog 144 #[.string s,.string cutset] w fun e w'=>e= .returned (.string ⟨(Lib.trimS s.data.toList cutset.data.toList).toArray⟩)/\Below w.heap.size w w':=Any.strings_Trim_laid Tryz.lays160 (by kernel_rfl) s cutset w hs hcs hascii
end Go.Proofs
namespace Go.Proofs.YtlolpmmloolieaaGreatDoor.Rt
open Go Go.RowKit Go.Proofs.YtlolpmmloolieaaGreatDoor.Rq
set_option maxRecDepth 100000
theorem gPow : Tryz.prog.globalNamed "internal/strconv.uint64pow10" = some 3 := by kernel_rfl
structure IR (w:World):Prop where
 tab : Lib.TabIs Tryz.prog w "internal/strconv.uint64pow10" .u64 Lib.pow10Tab
 max:∃m,w.cell? ⟨0,0,none⟩=some (.int .i64 m)
 es:∃ev,w.cell? ⟨1,0,none⟩=some ev/\(ev= .nilIface\/∃te pe,ev= .iface te pe)
 er:∃ev,w.cell? ⟨2,0,none⟩=some ev/\(ev= .nilIface\/∃te pe,ev= .iface te pe)
theorem cell_lt {w:World} {g o:Nat} {v:Value} (h:w.cell? ⟨g,o,none⟩=some v):g<w.heap.size:=by
 rcases Nat.lt_or_ge g w.heap.size with k|k
 ·exact k
 ·simp [World.cell?,Array.getElem?_eq_none k] at h
theorem cell_below {w w':World} {n g o:Nat} {v:Value} (h:w.cell? ⟨g,o,none⟩=some v) (hb:Below n w w') (hn:w.heap.size<=n):w'.cell? ⟨g,o,none⟩=some v:=by
 have:=hb.block g (Nat.lt_of_lt_of_le (cell_lt h) hn)
 simp only [World.cell?] at h ⊢
 rw [this];exact h
theorem IR.below {w w':World} {n:Nat} (h:IR w) (hb:Below n w w') (hn:w.heap.size<=n):IR w':=by
 obtain ⟨m,hm⟩:=h.max
 obtain ⟨e1,h1,k1⟩:=h.es
 obtain ⟨e2,h2,k2⟩:=h.er
 refine ⟨?_,⟨m,cell_below hm hb hn⟩,⟨e1,cell_below h1 hb hn,k1⟩,⟨e2,cell_below h2 hb hn,k2⟩⟩
 have ht:=h.tab
 unfold Lib.TabIs World.var? at ht ⊢
 rw [gPow] at ht ⊢
 simp only [Option.bind_some] at ht ⊢
 have h3:3<w.heap.size:=by
  rcases Nat.lt_or_ge 3 w.heap.size with k|k
  ·exact k
  ·rw [Array.getElem?_eq_none k] at ht;cases ht
 rw [hb.block 3 (by omega)]
 exact ht
theorem IR.same {w w':World} (h:IR w) (hb:Below w.heap.size w w'):IR w':=h.below hb (Nat.le_refl _)
theorem below_grow1 (w:World) (k:Nat) (os:Array Obj):Below w.heap.size w (Sort.grow (w.drewN k) os):=by
 refine ⟨rfl,rfl,rfl,?_,fun i hi=>?_⟩
 ·show w.heap.size<=(w.heap++os).size;simp
 ·show (w.heap++os)[i]?=w.heap[i]?;exact Array.getElem?_append_left hi
theorem below_drewN (w:World) (n:Nat):Below w.heap.size w (w.drewN n):=⟨rfl,rfl,rfl,Nat.le_refl _,fun _ _=>rfl⟩
theorem step {a b c:World} (h:Below a.heap.size a b) (k:Below b.heap.size b c):Below a.heap.size a c:=h.trans (k.mono h.size)
theorem dec_calls (n:Int) (h0: -9223372036854775808<=n) (h1:n<=9223372036854775807) (w:World) (hI:IR w):Calls Tryz.prog 43 #[.int .i64 n] w fun e w'=>e= .returned (.string ⟨(Lib.itoa n).toArray⟩)/\Below w.heap.size w w':=by
 go_enter Tryz.func43,Tryz.ntmps43
 go_wp2_with (first
  | (go_at_call 88;refine (Tryz.strconv_FormatInt_10 _ h0 h1 _ hI.tab).mono ?_;rintro e w' ⟨rfl,q,os,rfl⟩))
 go_ret
 exact ⟨rfl,below_grow1 w q os⟩
theorem rd_ok (s:ByteArray) (w:World) (hI:IR w) (hs:s.size<=2000000) (v:Int) (hv:Lib.parseIntB 64 s.data.toList= .ok v):Calls Tryz.prog 41 #[.string s] w fun e w'=>e= .returned (.tuple #[.int .i64 (rdV s),.bool (rdB s)])/\Below w.heap.size w w':=by
 have ha:Lib.atoiAll s.data.toList= .ok v:=by rw [<- Lib.parseIntB_64];exact hv
 have hb:=Lib.atoiAll_bounds ha
 have hn:=numL_ok ha
 have below1:∀w',(w'=w\/∃t,w'=Lib.bytesWorld w 5 t)->Below w.heap.size w w':=fun w' h=>by
  rcases h with rfl|⟨t,rfl⟩
  ·exact Below.refl _ _
  ·exact Lib.bytesWorld_below _ _ _
 go_enter Tryz.func41,Tryz.ntmps41
 go_wp2_with (first
  | (go_at_call 85;refine (Tryz.strconv_ParseInt_10_at64_ok _ (by omega) v hv _).mono ?_;rintro e w' ⟨rfl,h⟩;replace h:=below1 _ h)
  | (go_at_call 43;refine (dec_calls v hb.1 (by omega) _ (hI.below h (Nat.le_refl _))).mono ?_;rintro e w'' ⟨rfl,hb⟩;replace hb:=h.trans (hb.mono h.size))
  | (go_at_call 86;refine (Tryz.strings_TrimPrefix _ _ _).mono ?_;rintro e w3 ⟨rfl,rfl⟩))
 ·go_ret2
  have h2:18<((Lib.trimPrefix s.data.toList [45]).length:Int):=by assumption
  have e:numL s.data.toList=none:=by rw [hn,if_neg (by omega)]
  refine ⟨?_,by assumption⟩
  unfold rdV rdB;rw [e];rfl
 ·go_ret2
  have h1:Lib.itoa v=s.toList:=by assumption
  have h1':Lib.itoa v=s.data.toList:=by rw [h1,ByteArray.toList_eq]
  have h2:((Lib.trimPrefix s.data.toList [45]).length:Int)<=18:=by assumption
  have e:numL s.data.toList=some v:=by rw [hn,if_pos ⟨h1',by omega⟩]
  refine ⟨?_,by assumption⟩
  unfold rdV rdB;rw [e];rfl
 ·go_ret2
  have h1:¬Lib.itoa v=s.toList:=by assumption
  have h1':¬Lib.itoa v=s.data.toList:=by rw [<- ByteArray.toList_eq];exact h1
  have e:numL s.data.toList=none:=by rw [hn,if_neg (fun k=>h1' k.1)]
  refine ⟨?_,by assumption⟩
  unfold rdV rdB;rw [e];rfl
theorem rd_bad (s:ByteArray) (w:World) (hI:IR w) (hs:s.size<=2000000) (hv:Lib.parseIntB 64 s.data.toList=Lib.parseIntB 64 []\/Lib.parseIntB 64 s.data.toList= .range):Calls Tryz.prog 41 #[.string s] w fun e w'=>e= .returned (.tuple #[.int .i64 (rdV s),.bool (rdB s)])/\Below w.heap.size w w':=by
 have e:numL s.data.toList=none:=numL_no fun v hv'=>by
  rw [<- Lib.parseIntB_64] at hv'
  rcases hv with h|h
  ·have h2:=h.symm.trans hv'
   cases (show (Lib.parseIntB 64 []).ctorIdx=0 from by rw [h2];rfl)
  ·rw [h] at hv';cases hv'
 obtain ⟨ev,r1,r2⟩:=hI.es
 obtain ⟨ev',r1',r2'⟩:=hI.er
 go_enter Tryz.func41,Tryz.ntmps41
 rcases hv with hv|hv
 ·go_wp2_with (first
   | (go_at_call 85;refine (Tryz.strconv_ParseInt_10_at64_syntax _ (by omega) hv ev _ r1 r2).mono ?_;rintro e w' ⟨N,rfl,k1,k2,k3⟩))
  go_ret2
  refine ⟨?_,by assumption⟩
  unfold rdV rdB;rw [e];rfl
 ·go_wp2_with (first
   | (go_at_call 85;refine (Tryz.strconv_ParseInt_10_at64_range _ (by omega) hv ev' _ r1' r2').mono ?_;rintro e w' ⟨N,rfl,k1,k2,k3⟩))
  go_ret2
  refine ⟨?_,by assumption⟩
  unfold rdV rdB;rw [e];rfl
theorem rd_calls (s:ByteArray) (w:World) (hI:IR w) (hs:s.size<=2000000):Calls Tryz.prog 41 #[.string s] w fun e w'=>e= .returned (.tuple #[.int .i64 (rdV s),.bool (rdB s)])/\Below w.heap.size w w':=by
 cases hv:Lib.parseIntB 64 s.data.toList
 ·exact rd_ok s w hI hs _ hv
 ·exact rd_bad s w hI hs (.inl (hv.trans (by rfl)))
 ·exact rd_bad s w hI hs (.inr hv)
structure Dn0 (w w':World):Prop where mk::(out:∃n,w'=w.drewN n)
theorem Dn0.refl (w:World):Dn0 w w:=⟨⟨0,rfl⟩⟩
theorem Dn0.step {w w':World} (h:Dn0 w w') (n:Nat):Dn0 w (w'.drewN n):=by
 obtain ⟨⟨m,rfl⟩⟩:=h
 exact ⟨⟨m+n,by simp only [World.drewN,Nat.add_assoc]⟩⟩
theorem pow_calls (d:Nat) (hd:d<=9) (w:World):Calls Tryz.prog 151 #[.int .i64 (d:Int)] w fun e w'=>e= .returned (.int .i64 ((10^d:Nat):Int))/\Below w.heap.size w w':=by
 have hd':=Aside.mk hd
 clear hd
 go_enter Tryz.func151,Tryz.ntmps151
 go_wp2
 go_loopg [3,5] (d+1) (fun kq v3 v5 w'=>∃i P:Nat,v3= .int .i64 (P:Int)/\v5= .int .i64 (i:Int)/\Aside (P=10^i/\i+kq=d+1/\i<=d)/\Dn0 w w')
 case atStart=>exact ⟨0,1,rfl,rfl,⟨rfl,by omega,by omega⟩,by repeat (first|exact Dn0.refl _|apply Dn0.step)⟩
 case round=>
  obtain ⟨i,P,rfl,rfl,hi,⟨⟨m1,rfl⟩⟩⟩:=hrel
  cases gk with
  | zero=>exact absurd hi.out (by omega)
  | succ k1=>
   by_cases c:i<d
   ·have cb:decide ((i:Int)<(d:Int))=true:=decide_eq_true (by omega)
    have cb2:decide (i<d)=true:=decide_eq_true c
    have cb3:(i<d)=True:=eq_true c
    have hP:P<=1000000000:=by
     rw [hi.out.1]
     exact Nat.le_trans (Nat.pow_le_pow_right (by decide) (by have:=hd'.out;omega)) (by decide:10^9<=1000000000)
    have hp:wrap64 ((P:Int)*10)=((P*10:Nat):Int):=by rw [wid (by omega) (by omega)];omega
    have hi1:wrap64 ((i:Int)+1)=((i+1:Nat):Int):=by
     have:=hd'.out
     rw [wid (by omega) (by omega)];omega
    have c':=Aside.mk c
    clear c hP
    go_wp2
    go_roundg k1
    case measure=>have:=hi.out;omega
    case rel=>
     rw [hp,hi1]
     exact ⟨i+1,P*10,rfl,rfl,⟨by rw [hi.out.1,Nat.pow_succ],by have:=hi.out;omega,by have:=c'.out;omega⟩,by repeat (first|exact Dn0.refl _|apply Dn0.step)⟩
   ·have cb:decide ((i:Int)<(d:Int))=false:=decide_eq_false (by omega)
    have cb2:((d:Int)<(d:Int))=False:=eq_false (by omega)
    have hid:i=d:=by have:=hi.out;omega
    subst hid
    have hP:=hi.out.1
    subst hP
    clear c
    go_wp2
    go_ret
    exact ⟨rfl,below_drewN _ _⟩
end Go.Proofs.YtlolpmmloolieaaGreatDoor.Rt
namespace Go.Proofs.YtlolpmmloolieaaGreatDoor.Rt
open Go Go.RowKit Go.Proofs.YtlolpmmloolieaaGreatDoor.Rq
set_option maxRecDepth 100000
theorem dt_facts (M:Int) (d:Nat) (h0:0<=M) (h1:M<1000000000000000000) (hd:d<=9):∃p q r:Int,((10^d:Nat):Int)=p/\(p=0)=False/\(p==0)=false/\M.tdiv p=q/\M.tmod p=r/\0<=q/\q<1000000000000000000/\0<=r/\r<1000000000000000000/\(1<=d->(Lib.itoa r).length<=d)/\(d=7->p=10000000):=by
 obtain ⟨p,hp⟩:∃p:Nat,p=10^d:=⟨_,rfl⟩
 have hp1:1<=p/\p<=1000000000:=by
  match d,hd with
  | 0,_|1,_|2,_|3,_|4,_|5,_|6,_|7,_|8,_|9,_=>subst hp;decide
  | n+10,h=>exact absurd h (by omega)
 obtain ⟨m,rfl⟩:=Int.eq_ofNat_of_zero_le h0
 have hq:((m:Int).tdiv (p:Int))=((m/p:Nat):Int):=by rw [Int.tdiv_eq_ediv_of_nonneg (by omega)];rfl
 have hr:((m:Int).tmod (p:Int))=((m%p:Nat):Int):=by rw [Int.tmod_eq_emod_of_nonneg (by omega)];rfl
 have a1:=Nat.mod_lt m (show 0<p by omega)
 have a2:=Nat.div_le_self m p
 refine ⟨p,(m/p:Nat),(m%p:Nat),by rw [hp],by simp;omega,by simp;omega,hq,hr,Int.natCast_nonneg _,Int.ofNat_lt.2 (show m/p<1000000000000000000 by omega),Int.natCast_nonneg _,Int.ofNat_lt.2 (show m%p<1000000000000000000 by omega),fun hd1=>?_,fun h7=>by subst h7;subst hp;rfl⟩
 have:=itoa_le (d-1) (m%p) (by rw [Nat.sub_add_cancel hd1,<- hp];exact a1)
 omega
theorem dt_neg (M:Int) (d:Nat) (h0:0<M) (h1:M<1000000000000000000) (hd:d<=9) (w:World) (hI:IR w):
  Calls Tryz.prog 122 #[.int .i64 (-M),.int .i64 (d:Int)] w fun e w'=>∃T:ByteArray,e= .returned (.string T)/\Below w.heap.size w w'/\(d=7->T.data.toList=45::absL M):=by
 obtain ⟨p,q,r,hp,p0,p0',hq,hr,q0,q1,r0,r1,hl,h7⟩:=dt_facts M d (by omega) h1 hd
 have HB:=Below.refl w.heap.size w
 have hn: -M<0:=by omega
 have wM:wrap64 M=M:=wid (by omega) (by omega)
 have wq:wrap64 q=q:=wid (by omega) (by omega)
 have lq:=Pp.itoa_len q (by omega) (by omega)
 have lr:=Pp.itoa_len r (by omega) (by omega)
 have lz:=rep_len (d-(Lib.itoa r).length)
 replace hp:=Aside.mk hp
 go_enter Tryz.func122,Tryz.ntmps122
 by_cases d0:d=0
 ·have d0b:((d:Int)==0)=true:=by simp [d0]
  have d0c:((d:Int)=0)=True:=by simp [d0]
  replace d0:=Aside.mk d0
  go_wp2_with (first
   | (go_at_call 151;refine (pow_calls d hd _).mono ?_;rintro e w1 ⟨rfl,h1⟩;rw [hp.out];replace HB:=step HB h1)
   | (go_at_call 43;refine (dec_calls _ (by omega) (by omega) _ (hI.same HB)).mono ?_;rintro e w2 ⟨rfl,h2⟩;replace HB:=step HB h2))
  all_goals (try (exfalso;omega))
  go_ret
  exact ⟨_,rfl,HB,fun h=>absurd d0.out (by omega)⟩
 ·have hl:=hl (by omega)
  have d0b:((d:Int)==0)=false:=by simp [d0]
  have d0c:((d:Int)=0)=False:=by simp [d0]
  replace d0:=Aside.mk d0
  go_wp2_with (first
   | (go_at_call 151;refine (pow_calls d hd _).mono ?_;rintro e w1 ⟨rfl,h1⟩;rw [hp.out];replace HB:=step HB h1)
   | (go_at_call 43;refine (dec_calls _ (by omega) (by omega) _ (hI.same HB)).mono ?_;rintro e w2 ⟨rfl,h2⟩;replace HB:=step HB h2)
   | (go_at_call 152;rw [show (d:Int)-((Lib.itoa r).length:Int)=((d-(Lib.itoa r).length:Nat):Int) by omega];refine (Tryz.strings_Repeat _ _ _ (by omega) (by show 1*_<=_;omega)).mono ?_;rintro e w3 ⟨rfl,h3⟩;replace HB:=step HB h3))
  all_goals (try (exfalso;omega))
  go_ret
  refine ⟨_,rfl,HB,fun h=>?_⟩
  have hp7:=h7 h
  subst h
  rw [hp7] at hq hr
  rw [show (⟨#[46]⟩:ByteArray)=⟨[46].toArray⟩ from rfl,show (⟨#[45]⟩:ByteArray)=⟨[45].toArray⟩ from rfl,Pp.ba_mk,Pp.ba_mk,Pp.ba_mk,Pp.ba_mk]
  unfold absL padL
  rw [hq,hr]
  simp
theorem dt_pos (M:Int) (d:Nat) (h0:0<=M) (h1:M<1000000000000000000) (hd:d<=9) (w:World) (hI:IR w):
  Calls Tryz.prog 122 #[.int .i64 M,.int .i64 (d:Int)] w fun e w'=>∃T:ByteArray,e= .returned (.string T)/\Below w.heap.size w w'/\(d=7->T.data.toList=absL M):=by
 obtain ⟨p,q,r,hp,p0,p0',hq,hr,q0,q1,r0,r1,hl,h7⟩:=dt_facts M d (by omega) h1 hd
 have HB:=Below.refl w.heap.size w
 have hn:¬M<0:=by omega
 have wM:wrap64 M=M:=wid (by omega) (by omega)
 have wq:wrap64 q=q:=wid (by omega) (by omega)
 have lq:=Pp.itoa_len q (by omega) (by omega)
 have lr:=Pp.itoa_len r (by omega) (by omega)
 have lz:=rep_len (d-(Lib.itoa r).length)
 replace hp:=Aside.mk hp
 go_enter Tryz.func122,Tryz.ntmps122
 by_cases d0:d=0
 ·have d0b:((d:Int)==0)=true:=by simp [d0]
  have d0c:((d:Int)=0)=True:=by simp [d0]
  replace d0:=Aside.mk d0
  go_wp2_with (first
   | (go_at_call 151;refine (pow_calls d hd _).mono ?_;rintro e w1 ⟨rfl,h1⟩;rw [hp.out];replace HB:=step HB h1)
   | (go_at_call 43;refine (dec_calls _ (by omega) (by omega) _ (hI.same HB)).mono ?_;rintro e w2 ⟨rfl,h2⟩;replace HB:=step HB h2))
  all_goals (try (exfalso;omega))
  go_ret
  exact ⟨_,rfl,HB,fun h=>absurd d0.out (by omega)⟩
 ·have hl:=hl (by omega)
  have d0b:((d:Int)==0)=false:=by simp [d0]
  have d0c:((d:Int)=0)=False:=by simp [d0]
  replace d0:=Aside.mk d0
  go_wp2_with (first
   | (go_at_call 151;refine (pow_calls d hd _).mono ?_;rintro e w1 ⟨rfl,h1⟩;rw [hp.out];replace HB:=step HB h1)
   | (go_at_call 43;refine (dec_calls _ (by omega) (by omega) _ (hI.same HB)).mono ?_;rintro e w2 ⟨rfl,h2⟩;replace HB:=step HB h2)
   | (go_at_call 152;rw [show (d:Int)-((Lib.itoa r).length:Int)=((d-(Lib.itoa r).length:Nat):Int) by omega];refine (Tryz.strings_Repeat _ _ _ (by omega) (by show 1*_<=_;omega)).mono ?_;rintro e w3 ⟨rfl,h3⟩;replace HB:=step HB h3))
  all_goals (try (exfalso;omega))
  go_ret
  refine ⟨_,rfl,HB,fun h=>?_⟩
  have hp7:=h7 h
  subst h
  rw [hp7] at hq hr
  rw [show (⟨#[46]⟩:ByteArray)=⟨[46].toArray⟩ from rfl,show (⟨#[]⟩:ByteArray)=⟨[].toArray⟩ from rfl,Pp.ba_mk,Pp.ba_mk,Pp.ba_mk,Pp.ba_mk]
  unfold absL padL
  rw [hq,hr]
  simp
theorem dt_calls (m:Int) (d:Nat) (hm0: -1000000000000000000<m) (hm:m<1000000000000000000) (hd:d<=9) (w:World) (hI:IR w):
  Calls Tryz.prog 122 #[.int .i64 m,.int .i64 (d:Int)] w fun e w'=>∃T:ByteArray,e= .returned (.string T)/\Below w.heap.size w w'/\(d=7->T.data.toList=dgL m):=by
 unfold dgL
 by_cases hn:m<0
 ·rw [if_pos hn]
  have:=dt_neg (-m) d (by omega) (by omega) hd w hI
  rwa [Int.neg_neg] at this
 ·rw [if_neg hn]
  exact dt_pos m d (by omega) (by omega) hd w hI
end Go.Proofs.YtlolpmmloolieaaGreatDoor.Rt
namespace Go.Proofs.YtlolpmmloolieaaGreatDoor.Rt
open Go Go.RowKit Go.Proofs.YtlolpmmloolieaaGreatDoor.Rq
set_option maxRecDepth 100000
theorem within_calls (a b c:Int) (w:World):Calls Tryz.prog 69 #[.int .i64 a,.int .i64 b,.int .i64 c] w fun e w'=>e= .returned (.bool (decide (b<=a)&&decide (a<=c)))/\Below w.heap.size w w':=by
 by_cases h:b<=a
 ·have c1:decide (b<=a)=true:=decide_eq_true h
  have c1':(b<=a)=True:=eq_true h
  clear h
  go_enter Tryz.func69,Tryz.ntmps69
  go_wp2
  go_ret
  exact ⟨by rw [c1];rfl,Below.refl _ _⟩
 ·have c1:decide (b<=a)=false:=decide_eq_false h
  have c1':(b<=a)=False:=eq_false h
  clear h
  go_enter Tryz.func69,Tryz.ntmps69
  go_wp2
  go_ret
  exact ⟨by rw [c1];rfl,Below.refl _ _⟩
def cw (s:ByteArray):List UInt8:=(Lib.cut s.data.toList [46]).1
def cp (s:ByteArray):List UInt8:=(Lib.cut s.data.toList [46]).2.1
def cf (s:ByteArray):Bool:=(Lib.cut s.data.toList [46]).2.2
theorem cut_calls (s:ByteArray) (w:World) (hI:IR w) (hs:s.size<=2000000) (sep:ByteArray):
  Calls Tryz.prog 83 #[.string s,.string sep] w fun e w'=>e= .returned (.tuple #[.string ⟨(Lib.cut s.data.toList sep.data.toList).1.toArray⟩,.string ⟨(Lib.cut s.data.toList sep.data.toList).2.1.toArray⟩,.bool (Lib.cut s.data.toList sep.data.toList).2.2])/\Below w.heap.size w w':=by
 obtain ⟨m,hm⟩:=hI.max
 refine (Tryz.strings_Cut s sep m w (by omega) hm).mono fun e w' he=>?_
 obtain ⟨e1,n,rfl⟩:=he
 exact ⟨e1,below_drewN w n⟩
structure RD (s:ByteArray) (w:World) (e:Ending) (w':World):Prop where
 out:∃(m d:Int) (ok:Bool),e= .returned (.tuple #[.int .i64 m,.int .i64 d,.bool ok])/\Below w.heap.size w w'/\(ok=true->d=7->s.data.toList=dgL m /\ -10000000000000000<m/\m<10000000000000000)
  /\ ∀n:Int,-10000000000000000<n->n<10000000000000000->s.data.toList=dgL n->ok=true/\d=7/\m=n
def okT (s:ByteArray):Bool:=
 (cf s==decide (0<(cp s).length))&&(decide ((cp s).length<=9)&&((decide (1<=(Lib.trimPrefix (cw s) [45]).length)&&decide ((Lib.trimPrefix (cw s) [45]).length<=9))&&(Lib.trimS (Lib.trimPrefix (cw s) [45]++cp s) digB).isEmpty))
theorem dig_step (L:List UInt8) (hd:L.all zfU=true) (i:Nat) (hi:i<L.length) (hl:L.length<=18) (ch:UInt8) (hch:L.getD i 0=ch):
  wrap64 (wrap64 (10*((Rp.val 0 (L.take i):Nat):Int))+((ch.toNat:Int)-48)%256)=((Rp.val 0 (L.take (i+1)):Nat):Int):=by
 have hg:L[i]=ch:=by rw [<- hch,List.getD_eq_getElem?_getD,List.getElem?_eq_getElem hi];rfl
 have e:L.take (i+1)=L.take i ++ [ch]:=by
  rw [List.take_succ_eq_append_getElem hi,hg]
 have hc:zfU ch=true:=by
  refine List.all_eq_true.1 hd ch ?_
  rw [<- hg]
  exact List.getElem_mem hi
 simp only [zfU,Bool.and_eq_true,decide_eq_true_eq] at hc
 have ht:(L.take i).all zfU=true:=List.all_eq_true.2 fun x hx=>List.all_eq_true.1 hd x (List.mem_of_mem_take hx)
 have hv:=val_lt (L.take i) 0 0 ht (by decide)
 have hp:10^(0+(L.take i).length)<=10^17:=Nat.pow_le_pow_right (by decide) (by rw [List.length_take];omega)
 have hp':Rp.val 0 (L.take i)<100000000000000000:=Nat.lt_of_lt_of_le hv hp
 rw [e,Rp.val_app,val_cons]
 generalize Rp.val 0 (L.take i)=v at *
 have:Rp.val (v*10+(ch.toNat-48)) []=v*10+(ch.toNat-48):=by exact rfl
 rw [this,wid (n:=10*(v:Int)) (by omega) (by omega),wid (by omega) (by omega)]
 omega
theorem un_cut {n:Int} (h0: -10000000000000000<n) (h1:n<10000000000000000) {s:ByteArray} (e:s.data.toList=dgL n):∃U P:List UInt8,cw s=(if n<0 then 45::U else U)/\cp s=P/\cf s=true/\Lib.trimPrefix (cw s) [45]=U/\U.all zfU=true/\P.all zfU=true/\1<=U.length/\U.length<=9/\P.length=7/\Rp.val 0 (U++P)=n.natAbs:=by
 obtain ⟨U,P,_,u,p,u1,u9,p7,hv,hc,_⟩:=dgL_cut n h0 h1
 refine ⟨U,P,?_,?_,?_,?_,u,p,u1,u9,p7,hv⟩
 ·unfold cw;rw [e,hc]
 ·unfold cp;rw [e,hc]
 ·unfold cf;rw [e,hc]
 ·unfold cw
  rw [e,hc]
  show un _=U
  by_cases hn:n<0
  ·rw [if_pos hn];exact un_neg U
  ·rw [if_neg hn];exact un_dig u
theorem okT_dg {s:ByteArray} {n:Int} (h0: -10000000000000000<n) (h1:n<10000000000000000) (e:s.data.toList=dgL n):okT s=true:=by
 obtain ⟨U,P,e1,e2,e3,e4,u,p,u1,u9,p7,_⟩:=un_cut h0 h1 e
 unfold okT
 rw [e4,e2,e3]
 have ht:Lib.trimS (U++P) digB= []:=(trim_all _).2 (by rw [List.all_append,u,p];rfl)
 rw [ht]
 simp [u1,u9,p7]
theorem fin_RD {s T':ByteArray} {w w':World} {m:Int} {V:Nat} (hb:Below w.heap.size w w') (hm:(Lib.trimPrefix (cw s) [45]≠cw s/\m= -(V:Int))\/(Lib.trimPrefix (cw s) [45]=cw s/\m=(V:Int))) (hV:Rp.val 0 (Lib.trimPrefix (cw s) [45]++cp s)=V) (hV2:(cp s).length=7->V<10000000000000000)
  (h7:(cp s).length=7->T'.data.toList=dgL m):RD s w (.returned (.tuple #[.int .i64 m,.int .i64 ((cp s).length:Int),.bool (T'.toList==s.toList)])) w':=by
 refine ⟨m,_,_,rfl,hb,fun h1 h2=>⟨?_,by have:=hV2 (by omega);rcases hm with h|h<;>omega,by have:=hV2 (by omega);rcases hm with h|h<;>omega⟩,fun n n0 n1 e=>?_⟩
 ·have:=eq_of_beq h1
  rw [<- h7 (by omega),<- ByteArray.toList_eq,<- ByteArray.toList_eq,this]
 ·obtain ⟨U,P,e1,e2,e3,e4,u,p,u1,u9,p7,hv⟩:=un_cut n0 n1 e
  rw [e4,e2,hv] at hV
  rw [e4,e1] at hm
  have hmn:m=n:=by
   by_cases hn:n<0
   ·rw [if_pos hn] at hm
    rcases hm with h|h
    ·omega
    ·have:=congrArg List.length h.1;simp at this
   ·rw [if_neg hn] at hm
    rcases hm with h|h
    ·exact absurd rfl h.1
    ·omega
  refine ⟨?_,by rw [e2,p7];rfl,hmn⟩
  rw [beq_iff_eq,ByteArray.toList_eq,ByteArray.toList_eq,e,h7 (by rw [e2,p7]),hmn]
theorem rdig_no (s:ByteArray) (w:World) (hI:IR w) (hs:s.size<=2000000) (hno:okT s=false):
  Calls Tryz.prog 118 #[.string s] w (RD s w):=by
 have HB:=Below.refl w.heap.size w
 obtain ⟨W,hW⟩:∃W,(Lib.cut s.data.toList [46]).1=W:=⟨_,rfl⟩
 obtain ⟨P,hP⟩:∃P,(Lib.cut s.data.toList [46]).2.1=P:=⟨_,rfl⟩
 obtain ⟨f,hf⟩:∃f,(Lib.cut s.data.toList [46]).2.2=f:=⟨_,rfl⟩
 obtain ⟨U,hU⟩:∃U,Lib.trimPrefix W [45]=U:=⟨_,rfl⟩
 have hok:=hno
 unfold okT cf cw cp at hok
 rw [hW,hP,hf,hU] at hok
 have hRD:Aside (∀w',Below w.heap.size w w'->RD s w (.returned (.tuple #[.int .i64 0,.int .i64 0,.bool false])) w'):=⟨fun w' hb=>⟨0,0,false,rfl,hb,(fun h=>by cases h),fun n n0 n1 e=>by rw [okT_dg n0 n1 e] at hno;cases hno⟩⟩
 clear hno
 obtain ⟨X,hX⟩:∃X,Lib.trimS (U++P) digB=X:=⟨_,rfl⟩
 rw [hX] at hok
 replace hX:=Aside.mk hX
 have wl:=cut_len 46 s.data.toList
 rw [hW,hP,show s.data.toList.length=s.size from rfl] at wl
 have ul:U.length<=W.length:=by
  rw [<- hU]
  unfold Lib.trimPrefix
  split
  ·simp
  ·exact Nat.le_refl _
 replace hok:=Aside.mk hok
 go_enter Tryz.func118,Tryz.ntmps118
 go_wp2_with (first
  | (go_at_call 83;refine (cut_calls s _ (hI.same HB) hs _).mono ?_;rintro e w1 ⟨rfl,h1⟩;replace HB:=step HB h1;rw [hW,hP,hf])
  | (go_at_call 86;refine (Tryz.strings_TrimPrefix _ _ _).mono ?_;rintro e w2 ⟨rfl,rfl⟩;rw [hU])
  | (go_at_call 69;refine (within_calls _ _ _ _).mono ?_;rintro e w3 ⟨rfl,h3⟩;replace HB:=step HB h3)
  | (go_at_call 144;rw [Pp.ba_mk];refine (Tryz.strings_Trim _ _ _ (by show (U++P).length<=_;rw [List.length_append];omega) (by decide) (ascii_of_all (by decide))).mono ?_;rintro e w4 ⟨rfl,h4⟩;replace HB:=step HB h4;rw [show Lib.trimS (⟨(U++P).toArray⟩:ByteArray).data.toList (⟨#[48,49,50,51,52,53,54,55,56,57]⟩:ByteArray).data.toList=X from hX.out]))
 all_goals (try (exfalso;omega))
 all_goals (try (go_ret3;exact hRD.out _ HB))
 exfalso
 have h1:=(by assumption:f=decide (0<P.length))
 have h3:=(by assumption:1<=(U.length:Int)/\(U.length:Int)<=9)
 have h4:=(by assumption:(P.length:Int)<=9/\(!X.isEmpty)=false)
 have h5:X.isEmpty=true:=by simpa using h4.2
 have h6:=hok.out
 rw [h5,h1,decide_eq_true (show P.length<=9 by omega),decide_eq_true (show 1<=U.length by omega),decide_eq_true (show U.length<=9 by omega)] at h6
 simp at h6
theorem rdig_yes (s:ByteArray) (w:World) (hI:IR w) (hs:s.size<=2000000) (hok:okT s=true):
  Calls Tryz.prog 118 #[.string s] w (RD s w):=by
 have HB:=Below.refl w.heap.size w
 obtain ⟨W,hW⟩:∃W,(Lib.cut s.data.toList [46]).1=W:=⟨_,rfl⟩
 obtain ⟨P,hP⟩:∃P,(Lib.cut s.data.toList [46]).2.1=P:=⟨_,rfl⟩
 obtain ⟨f,hf⟩:∃f,(Lib.cut s.data.toList [46]).2.2=f:=⟨_,rfl⟩
 obtain ⟨U,hU⟩:∃U,Lib.trimPrefix W [45]=U:=⟨_,rfl⟩
 obtain ⟨T,hT⟩:∃T,(⟨U.toArray⟩:ByteArray)++⟨P.toArray⟩=T:=⟨_,rfl⟩
 have hfin:Aside (∀(T':ByteArray) (w':World) (m:Int) (V:Nat),Below w.heap.size w w'->((U≠W/\m= -(V:Int))\/(U=W/\m=(V:Int)))->Rp.val 0 (U++P)=V->(P.length=7->V<10000000000000000)->(P.length=7->T'.data.toList=dgL m)->RD s w (.returned (.tuple #[.int .i64 m,.int .i64 (P.length:Int),.bool (T'.toList==s.toList)])) w'):=by
  refine ⟨?_⟩
  rw [<- hU,<- hW,<- hP]
  exact fun T' w' m V hb hm hV hV2 h7=>fin_RD hb hm hV hV2 h7
 have hTl:T.data.toList=U++P:=by rw [<- hT,Pp.ba_mk]
 unfold okT cf cw cp at hok
 rw [hW,hP,hf,hU] at hok
 simp only [Bool.and_eq_true,beq_iff_eq,decide_eq_true_eq] at hok
 obtain ⟨f0,p9,⟨u1,u9⟩,ht⟩:=hok
 have hdig:(U++P).all zfU=true:=(trim_all _).1 (List.isEmpty_iff.1 ht)
 have hdig:=Aside.mk hdig
 have ht':Lib.trimS T.data.toList [48,49,50,51,52,53,54,55,56,57]= []:=by rw [hTl];exact List.isEmpty_iff.1 ht
 have hsz:T.size=U.length+P.length:=by rw [show T.size=T.data.toList.length from rfl,hTl,List.length_append]
 subst f0
 replace hTl:=Aside.mk hTl
 replace ht:=Aside.mk ht
 have c1:decide ((P.length:Int)>9)=false:=decide_eq_false (by omega)
 have c1':(9<(P.length:Int))=False:=eq_false (by omega)
 have c2:decide ((1:Int)<=(U.length:Int))=true:=decide_eq_true (by omega)
 have c3:decide ((U.length:Int)<=9)=true:=decide_eq_true (by omega)
 have c2':(1<=U.length)=True:=eq_true u1
 have c3':(U.length<=9)=True:=eq_true u9
 have c4:((U.length:Int)<=9)=True:=eq_true (by omega)
 have c5:((1:Int)<=(U.length:Int))=True:=eq_true (by omega)
 have kc:∀(w:World) (s:ByteArray),(convert 9 22 (.string s)).run Tryz.prog w= .ok (.slice (some ⟨w.heap.size,0,none⟩) s.size (grownCap w s.size 0 5)) (Lib.bytesWorld w 5 s):=fun w s=>Lib.run_convert_string_bytes w 9 22 5 s Tryz.underlying9 Tryz.underlying22 Tryz.underlying5
 go_enter Tryz.func118,Tryz.ntmps118
 go_wp2_with (first
  | (go_at_call 83;refine (cut_calls s _ (hI.same HB) hs _).mono ?_;rintro e w1 ⟨rfl,h1⟩;replace HB:=step HB h1;rw [hW,hP,hf])
  | (go_at_call 86;refine (Tryz.strings_TrimPrefix _ _ _).mono ?_;rintro e w2 ⟨rfl,rfl⟩;rw [hU])
  | (go_at_call 69;refine (within_calls _ _ _ _).mono ?_;rintro e w3 ⟨rfl,h3⟩;replace HB:=step HB h3)
  | (go_at_call 144;refine (Tryz.strings_Trim _ _ _ (by omega) (by decide) (ascii_of_all (by decide))).mono ?_;rintro e w4 ⟨rfl,h4⟩;replace HB:=step HB h4;rw [ht']))
 go_loopg [10,49] (T.size+1) (fun kq v10 v49 w'=>∃i:Nat,v10= .int .i64 ((Rp.val 0 ((U++P).take i):Nat):Int)/\v49= .int .i64 (i:Int)/\Aside (i+kq=T.size+1/\i<=T.size)/\w'=Lib.bytesWorld w4 5 T)
 case atStart=>exact ⟨0,rfl,rfl,⟨by omega,by omega⟩,rfl⟩
 case round=>
  obtain ⟨i,rfl,rfl,hi,rfl⟩:=hrel
  cases gk with
  | zero=>exact absurd hi.out (by omega)
  | succ k1=>
   by_cases c:i<T.size
   ·have cb:decide ((i:Int)<(T.size:Int))=true:=decide_eq_true (by omega)
    have hcell:=Lib.bytesWorld_cell w4 5 T i c
    obtain ⟨ch,hch⟩:∃ch,T.data.toList.getD i 0=ch:=⟨_,rfl⟩
    rw [hch] at hcell
    rw [hTl.out] at hch
    replace hch:=Aside.mk hch
    go_wp2
    go_roundg k1
    case measure=>have:=hi.out;omega
    case rel=>
     refine ⟨i+1,?_,by simp,⟨by have:=hi.out;omega,by omega⟩,rfl⟩
     rw [dig_step (U++P) hdig.out i (by rw [List.length_append];omega) (by rw [List.length_append];omega) ch hch.out]
   ·have cb:decide ((i:Int)<(T.size:Int))=false:=decide_eq_false (by omega)
    have hi':i=T.size:=by have:=hi.out;omega
    have htk:(U++P).take i=U++P:=List.take_of_length_le (by rw [List.length_append];omega)
    have HB5:Below w.heap.size w (Lib.bytesWorld w4 5 T):=step HB (Lib.bytesWorld_below _ _ _)
    rw [htk]
    clear htk hi'
    obtain ⟨V,hV⟩:∃V,Rp.val 0 (U++P)=V:=⟨_,rfl⟩
    rw [hV]
    have hV2:V<1000000000000000000:=by
     have:=val_lt (U++P) 0 0 hdig.out (by decide)
     rw [hV] at this
     have h18:10^(0+(U++P).length)<=10^18:=Nat.pow_le_pow_right (by decide) (by rw [List.length_append];omega)
     exact Nat.lt_of_lt_of_le this h18
    have hV3:P.length=7->V<10000000000000000:=fun h7=>by
     have:=val_lt (U++P) 0 0 hdig.out (by decide)
     rw [hV] at this
     have h16:10^(0+(U++P).length)<=10^16:=Nat.pow_le_pow_right (by decide) (by rw [List.length_append];omega)
     exact Nat.lt_of_lt_of_le this h16
    replace hV3:=Aside.mk hV3
    have hw:wrap64 (-(V:Int))= -(V:Int):=wid (by omega) (by omega)
    replace hV:=Aside.mk hV
    go_wp2_with (first|(go_at_call 122;refine (dt_calls _ P.length (by omega) (by omega) (by omega) _ (hI.same HB5)).mono ?_;rintro e w6 ⟨T',rfl,h6,h7⟩;replace HB5:=step HB5 h6;replace h7:=Aside.mk h7))
    ·go_ret3
     have h:=(by assumption:(!U==W)=true)
     refine hfin.out _ _ _ _ HB5 (.inl ⟨fun e=>?_,rfl⟩) hV.out hV3.out h7.out
     rw [e] at h;simp at h
    ·go_ret3
     have h:=(by assumption:(!U==W)=false)
     refine hfin.out _ _ _ _ HB5 (.inr ⟨by simpa using h,rfl⟩) hV.out hV3.out h7.out
theorem rdig_calls (s:ByteArray) (w:World) (hI:IR w) (hs:s.size<=2000000):Calls Tryz.prog 118 #[.string s] w (RD s w):=by
 cases h:okT s with
 | false=>exact rdig_no s w hI hs h
 | true=>exact rdig_yes s w hI hs h
end Go.Proofs.YtlolpmmloolieaaGreatDoor.Rt
namespace Go.Proofs.YtlolpmmloolieaaGreatDoor.Rt
open Go Go.RowKit Go.Proofs.YtlolpmmloolieaaGreatDoor.Rq
set_option maxRecDepth 100000
structure RG (s:ByteArray) (w:World) (e:Ending) (w':World):Prop where
 out:∃(m:Int) (ok:Bool),e= .returned (.tuple #[.int .i64 m,.bool ok])/\Below w.heap.size w w'/\(ok=true->s.data.toList=dgL m /\ -10000000000000000<m/\m<10000000000000000)/\(ok=false->m=0)/\∀n:Int,-10000000000000000<n->n<10000000000000000->s.data.toList=dgL n->ok=true/\m=n
theorem rdeg_calls (s:ByteArray) (w:World) (hI:IR w) (hs:s.size<=2000000):Calls Tryz.prog 84 #[.string s] w (RG s w):=by
 have HB:=Below.refl w.heap.size w
 go_enter Tryz.func84,Tryz.ntmps84
 go_wp2_with (first
  | (go_at_call 118;refine (rdig_calls s _ (hI.same HB) hs).mono ?_;rintro e w1 ⟨⟨m,d,ok,rfl,h1,h2,h3⟩⟩;replace HB:=step HB h1;replace h2:=Aside.mk h2;replace h3:=Aside.mk h3))
 ·go_ret2
  have hd:=(by assumption:(d != 7)=true)
  exact ⟨⟨0,false,rfl,HB,(fun h=>by cases h),fun _=>rfl,fun n n0 n1 e=>by have:=(h3.out n n0 n1 e).2.1;rw [this] at hd;cases hd⟩⟩
 ·go_ret2
  have hd:=(by assumption:(d != 7)=false)
  have hok:=(by assumption:ok=true)
  have hd7:d=7:=by simpa using hd
  exact ⟨⟨m,true,rfl,HB,fun _=>h2.out hok hd7,(fun h=>by cases h),fun n n0 n1 e=>⟨rfl,(h3.out n n0 n1 e).2.2⟩⟩⟩
 ·go_ret2
  have hok:=(by assumption:¬ok=true)
  exact ⟨⟨0,false,rfl,HB,(fun h=>by cases h),fun _=>rfl,fun n n0 n1 e=>absurd (h3.out n n0 n1 e).1 hok⟩⟩
def dgR (s:ByteArray):Option Int:=open Classical in if h:∃n:Int,-10000000000000000<n/\n<10000000000000000/\s.data.toList=dgL n then some h.choose else none
theorem rdeg_fn (s:ByteArray) (w:World) (hI:IR w) (hs:s.size<=2000000):Calls Tryz.prog 84 #[.string s] w fun e w'=>e= .returned (.tuple #[.int .i64 ((dgR s).getD 0),.bool (dgR s).isSome])/\Below w.heap.size w w':=by
 refine (rdeg_calls s w hI hs).mono fun e w' ⟨⟨m,ok,he,hb,h1,h2,h3⟩⟩=>?_
 refine ⟨?_,hb⟩
 unfold dgR
 by_cases h:∃n:Int,-10000000000000000<n/\n<10000000000000000/\s.data.toList=dgL n
 ·rw [dif_pos h]
  obtain ⟨n0,n1,ne⟩:=h.choose_spec
  obtain ⟨k1,k2⟩:=h3 _ n0 n1 ne
  subst k1
  rw [he,k2];rfl
 ·rw [dif_neg h]
  have hok:ok=false:=by
   cases ok with
   | false=>rfl
   | true=>exact absurd ⟨m,(h1 rfl).2.1,(h1 rfl).2.2,(h1 rfl).1⟩ h
  subst hok
  rw [he,h2 rfl];rfl
theorem dgR_some {s:ByteArray} {n:Int} (h:dgR s=some n):s.data.toList=dgL n /\ -10000000000000000<n/\n<10000000000000000:=by
 unfold dgR at h
 split at h
 ·rename_i hh
  obtain ⟨n0,n1,ne⟩:=hh.choose_spec
  cases h
  exact ⟨ne,n0,n1⟩
 ·cases h
end Go.Proofs.YtlolpmmloolieaaGreatDoor.Rt
