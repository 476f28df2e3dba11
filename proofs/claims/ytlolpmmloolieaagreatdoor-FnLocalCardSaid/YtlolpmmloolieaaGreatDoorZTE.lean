/- The law FnLocal gives true, whatever bytes come in, where the listed tables hold what the program's text lays. The card: the tables tied to the text. No other conditions. (One of the texts of its proof, put together by a program of this session.) -/
import Derived.Test.YtlolpmmloolieaaGreatDoorZTX
import Derived.Test.YtlolpmmloolieaaGreatDoorZW1
set_option linter.unusedSectionVars false
set_option linter.unusedSimpArgs false
set_option linter.unusedVariables false
noncomputable section
namespace Go.Proofs.YtlolpmmloolieaaGreatDoor.Tx
open Go Go.RowKit Go.Proofs.YtlolpmmloolieaaGreatDoor.Rq Go.Proofs.YtlolpmmloolieaaGreatDoor.Rt
open Go.Proofs.YtlolpmmloolieaaGreatDoor.Ev
set_option maxRecDepth 100000
variable [Amb]
theorem does_calls {P:Program} (b:Bod P) {xs:List Value} {w:World} {R:Value->World->Prop} (h:Calls P b.id xs.toArray w fun e w'=>∃x,e= .returned x/\R x w'):Does P b.id xs.toArray w R:=by
 intro o a next Q hn
 rw [zeV,Oper.upon_enter]
 refine Calls.mono h fun e w' he=>?_
 obtain ⟨x,rfl,h1⟩:=he
 exact hn x w' h1
theorem vrs_u64 {ρ:Nat->Option Nat}:∀ {L:List U64} {xs:List Value},VRs ρ (L.map V.u64) xs->xs=L.map fun x=> .int .u64 x.val
 | [],xs,h=>by cases h;rfl
 | x::L,xs,h=>by
  cases h with
  | cons h t=>cases h;rw [vrs_u64 t];rfl
theorem ir_of {w:World} (h:Inv0 w):IR w:=by
 obtain ⟨xs,t,h1,h2⟩:=h.1 3 _ rfl
 have row:∀g,(g,isErr)∈rowsX->∃ev,w.cell? ⟨g,0,none⟩=some ev/\(ev= .nilIface\/∃te pe,ev= .iface te pe):=fun g hg=>by
  obtain ⟨c,t,h1,tp,p,rfl⟩:=h.2 (g,isErr) hg
  exact ⟨.iface tp p,by rw [cell_of_row w g 0 _ t _ h1];rfl,.inr ⟨_,_,rfl⟩⟩
 refine ⟨?_,?_,row 1 (by simp [rowsX]),row 2 (by simp [rowsX])⟩
 ·unfold Lib.TabIs World.var?
  rw [Rt.gPow]
  simp only [Option.bind_some,h1]
  rw [vrs_u64 h2]
  have e:(pow10s.map fun x=>Value.int .u64 x.val)=Lib.pow10Tab.map fun z=>Value.int .u64 z:=by kernel_rfl
  rw [e]
 ·obtain ⟨c,t,h1,m,rfl⟩:=h.2 (0,isInt) (by simp [rowsX])
  exact ⟨m,by rw [cell_of_row w 0 0 _ t _ h1];rfl⟩
theorem wi {n:Int} (h1: -9223372036854775808<=n) (h2:n<=9223372036854775807):(Rng.w .i64 n).val=n:=zen (by simp only [inB,Bool.and_eq_true,decide_eq_true_eq];exact ⟨h1,h2⟩)
def gSize (s:ByteArray):Bool:=decide (s.size<=2000000)
def c1 (s p:ByteArray):ByteArray:=⟨(Lib.cut s.data.toList p.data.toList).1.toArray⟩
def c2 (s p:ByteArray):ByteArray:=⟨(Lib.cut s.data.toList p.data.toList).2.1.toArray⟩
def c3 (s p:ByteArray):Bool:=(Lib.cut s.data.toList p.data.toList).2.2
def B83:Bod Tryz.prog:=⟨83,Tryz.f83,Tryz.f83.body.getD .skip,Tryz.func83,by kernel_rfl,by kernel_rfl,zai.no _ _⟩
def E_Cut : Ent Tryz.prog where
  id := 83
  g := fun vs _ => match vs with
    | [.str s, .str _] => gSize s
    | _ => false
  fn := fun vs _ => match vs with
    | [.str s, .str p] => some (.tup [.str (c1 s p), .str (c2 s p), .bool (c3 s p)])
    | _ => none
  ok := fun vs m v hg hf w0 ρ xs w hv hm => by
    split at hf <;> try (cases hf;done)
    rename_i s p
    cases hf
    have hs : s.size <= 2000000 := by simpa [gSize] using hg
    cases hv with
    | cons h1 t => cases t with
      | cons h2 t => cases t;cases h1;cases h2
                     refine does_calls B83 ((cut_calls s w (ir_of hm.invw) hs p).mono fun e w' he => ?_)
                     obtain ⟨rfl, hb⟩ := he
                     exact ⟨_, rfl, .tup (.cons (.str _) (.cons (.str _) (.cons (.bool _) .nil))), hb⟩
theorem dgR_bd (s:ByteArray): -10000000000000000<=(dgR s).getD 0/\(dgR s).getD 0<=10000000000000000:=by
 cases h:dgR s with
 | none=>exact ⟨by decide,by decide⟩
 | some n=>
  have:=(dgR_some h).2
  simp only [Option.getD_some]
  omega
def dgI (s:ByteArray):I64:= .w .i64 ((dgR s).getD 0)
def dgB (s:ByteArray):Bool:=(dgR s).isSome
theorem dgI_val (s:ByteArray):(dgI s).val=(dgR s).getD 0:=wi (by have:=dgR_bd s;omega) (by have:=dgR_bd s;omega)
def B84:Bod Tryz.prog:=⟨84,Tryz.f84,Tryz.f84.body.getD .skip,Tryz.func84,by kernel_rfl,by kernel_rfl,zai.no _ _⟩
def E_readDegrees : Ent Tryz.prog where
  id := 84
  g := fun vs _ => match vs with
    | [.str s] => gSize s
    | _ => false
  fn := fun vs _ => match vs with
    | [.str s] => some (.tup [.i64 (dgI s), .bool (dgB s)])
    | _ => none
  ok := fun vs m v hg hf w0 ρ xs w hv hm => by
    split at hf <;> try (cases hf;done)
    rename_i s
    cases hf
    have hs : s.size <= 2000000 := by simpa [gSize] using hg
    cases hv with
    | cons h1 t => cases t;cases h1
                   refine does_calls B84 ((rdeg_fn s w (ir_of hm.invw) hs).mono fun e w' he => ?_)
                   obtain ⟨rfl, hb⟩ := he
                   refine ⟨_, rfl, ?_, hb⟩
                   rw [<- dgI_val]
                   exact .tup (.cons (.i64 _) (.cons (.bool _) .nil))
def rdI (s:ByteArray):I64:= .w .i64 (rdV s)
theorem rdI_val (s:ByteArray):(rdI s).val=rdV s:=wi (rdV_bd s).1 (rdV_bd s).2
def B41:Bod Tryz.prog:=⟨41,Tryz.f41,Tryz.f41.body.getD .skip,Tryz.func41,by kernel_rfl,by kernel_rfl,zai.no _ _⟩
def E_ReadDecimal : Ent Tryz.prog where
  id := 41
  g := fun vs _ => match vs with
    | [.str s] => gSize s
    | _ => false
  fn := fun vs _ => match vs with
    | [.str s] => some (.tup [.i64 (rdI s), .bool (rdB s)])
    | _ => none
  ok := fun vs m v hg hf w0 ρ xs w hv hm => by
    split at hf <;> try (cases hf;done)
    rename_i s
    cases hf
    have hs : s.size <= 2000000 := by simpa [gSize] using hg
    cases hv with
    | cons h1 t => cases t;cases h1
                   refine does_calls B41 ((rd_calls s w (ir_of hm.invw) hs).mono fun e w' he => ?_)
                   obtain ⟨rfl, hb⟩ := he
                   refine ⟨_, rfl, ?_, hb⟩
                   rw [<- rdI_val]
                   exact .tup (.cons (.i64 _) (.cons (.bool _) .nil))
def liI (s:ByteArray) (c:Rng .u8):I64:= .w .i64 (Lib.lastIndexByte s c.val)
def B39:Bod Tryz.prog:=⟨39,Tryz.f39,Tryz.f39.body.getD .skip,Tryz.func39,by kernel_rfl,by kernel_rfl,zai.no _ _⟩
theorem liI_val (s:ByteArray) (c:Rng .u8) (h:s.size<=2000000):(liI s c).val=Lib.lastIndexByte s c.val:=by
 refine wi ?_ ?_
 ·rcases Lib.lastIndexByte_spec s c.val with k|⟨i,k1,k2,_⟩<;>omega
 ·rcases Lib.lastIndexByte_spec s c.val with k|⟨i,k1,k2,_⟩<;>omega
def E_Last : Ent Tryz.prog where
  id := 39
  g := fun vs _ => match vs with
    | [.str s, .u8 _] => gSize s
    | _ => false
  fn := fun vs _ => match vs with
    | [.str s, .u8 c] => some (.i64 (liI s c))
    | _ => none
  ok := fun vs m v hg hf w0 ρ xs w hv hm => by
    split at hf <;> try (cases hf;done)
    rename_i s c
    cases hf
    have hs : s.size <= 2000000 := by simpa [gSize] using hg
    cases hv with
    | cons h1 t => cases t with
      | cons h2 t => cases t;cases h1;cases h2
                     refine does_calls B39 ((Tryz.strings_LastIndexByte s c.val (by omega) w).mono fun e w' he => ?_)
                     obtain ⟨rfl, rfl⟩ := he
                     refine ⟨_, rfl, ?_, Below.refl _ _⟩
                     rw [<- liI_val s c hs]
                     exact .i64 _
def Y3:TyE Tryz.prog:=⟨3,1,(.int .i64),[.i64 ⟨0,rfl⟩],false,by kernel_rfl,by kernel_rfl,by kernel_rfl,by kernel_rfl,by kernel_rfl,by kernel_rfl⟩
def Y4:TyE Tryz.prog:=⟨4,1,.bool,[.bool false],false,by kernel_rfl,by kernel_rfl,by kernel_rfl,by kernel_rfl,by kernel_rfl,by kernel_rfl⟩
def Y9:TyE Tryz.prog:=⟨9,1,.str,[.str ByteArray.empty],false,by kernel_rfl,by kernel_rfl,by kernel_rfl,by kernel_rfl,by kernel_rfl,by kernel_rfl⟩
def B40:Bod Tryz.prog:=⟨40,Tryz.f40,Tryz.f40.body.getD .skip,Tryz.func40,by kernel_rfl,by kernel_rfl,zai.no _ _⟩
def Tb40:Tb Tryz.prog:= {T:= [Y2,Y3,Y4,Y9,Y28],mix:=mix,Es:= [E_Cut,E_readDegrees,zeF],Bs:= [],d:=1}
def bl:ByteArray:=⟨#[32]⟩
def pt0:zdz:=⟨⟨0,rfl⟩,⟨0,rfl⟩⟩
def ptOf (s:ByteArray):zdz:=⟨dgI (c1 s bl),dgI (c2 s bl)⟩
theorem r12 (s:ByteArray):Tb40.run B40 [enc s] (T2 zdz Bool)=bif gSize s then (bif gSize (c1 s bl) then (bif gSize (c2 s bl) then
 (bif !(dgB (c1 s bl)) then some ⟨pt0,false⟩ else bif !(dgB (c2 s bl)) then some ⟨pt0,false⟩ else bif !(zab (ptOf s)) then some ⟨pt0,false⟩ else some ⟨ptOf s,true⟩) else none) else none) else none:=by kernel_rfl
end Go.Proofs.YtlolpmmloolieaaGreatDoor.Tx
namespace Go.Proofs.YtlolpmmloolieaaGreatDoor.Tx
open Go Go.RowKit Go.Proofs.YtlolpmmloolieaaGreatDoor.Rq Go.Proofs.YtlolpmmloolieaaGreatDoor.Rt
open Go.Proofs.YtlolpmmloolieaaGreatDoor.Ev
set_option maxRecDepth 100000
variable [Amb]
def gPt (s:ByteArray):Bool:=gSize s&&(gSize (c1 s bl)&&gSize (c2 s bl))
def rpF (s:ByteArray):T2 zdz Bool:=bif !(dgB (c1 s bl)) then ⟨pt0,false⟩ else bif !(dgB (c2 s bl)) then ⟨pt0,false⟩ else bif !(zab (ptOf s)) then ⟨pt0,false⟩ else ⟨ptOf s,true⟩
theorem rp12 (s:ByteArray) (h:gPt s=true):Tb40.run B40 [enc s] (T2 zdz Bool)=some (rpF s):=by
 simp only [gPt,Bool.and_eq_true] at h
 rw [r12,h.1,h.2.1,h.2.2]
 simp only [cond_true]
 unfold rpF
 cases dgB (c1 s bl)<;>cases dgB (c2 s bl)<;>cases zab (ptOf s)<;>rfl
def E_ReadPoint:Ent Tryz.prog:= .of1 Tb40 B40 gPt rpF rp12
def B11:Bod Tryz.prog:=⟨11,Tryz.f11,Tryz.f11.body.getD .skip,Tryz.func11,by kernel_rfl,by kernel_rfl,zai.no _ _⟩
def Tb11:Tb Tryz.prog:= {T:= [Y2,Y3,Y4,Y9,Y28,Y30],mix:=mix,Es:= [E_Last,E_ReadPoint,E_ReadDecimal,zeG],Bs:= [],d:=1}
def pl0:Ev.Place:=⟨⟨⟨0,rfl⟩,⟨0,rfl⟩⟩,⟨0,rfl⟩⟩
def sp8:Rng .u8:=⟨32,rfl⟩
def ix (s:ByteArray):I64:=liI s sp8
def jx (s:ByteArray):I64:= .w .i64 ((ix s).val+1)
def s1 (s:ByteArray):ByteArray:=s.extract 0 (ix s).val.toNat
def s2 (s:ByteArray):ByteArray:=s.extract (jx s).val.toNat s.size
def plOf (s:ByteArray):Ev.Place:=⟨(rpF (s1 s)).a,rdI (s2 s)⟩
theorem r5 (s:ByteArray):Tb11.run B11 [enc s] (T2 Ev.Place Bool)=bif gSize s then (bif decide ((ix s).val<0) then some ⟨pl0,false⟩ else
 bif (decide (0<=(ix s).val)&&decide ((ix s).val<=(s.size:Int))) then bif gPt (s1 s) then bif (decide (0<=(jx s).val)&&decide ((jx s).val<=(s.size:Int))) then bif gSize (s2 s) then
 (bif !(rpF (s1 s)).b then some ⟨pl0,false⟩ else bif !(rdB (s2 s)) then some ⟨pl0,false⟩ else bif !(zac (plOf s)) then some ⟨pl0,false⟩ else some ⟨plOf s,true⟩) else none else none else none else none) else none:=by kernel_rfl
end Go.Proofs.YtlolpmmloolieaaGreatDoor.Tx
namespace Go.Proofs.YtlolpmmloolieaaGreatDoor.Tx
open Go Go.RowKit Go.Proofs.YtlolpmmloolieaaGreatDoor.Rq Go.Proofs.YtlolpmmloolieaaGreatDoor.Rt
open Go.Proofs.YtlolpmmloolieaaGreatDoor.Ev
set_option maxRecDepth 100000
variable [Amb]
theorem i64_ext {a b:I64} (h:a.val=b.val):a=b:=by
 cases a;cases b;cases h;rfl
theorem vp_iff (p:zdz):zab p=true↔(-900000000<=p.lat.val/\p.lat.val<=900000000)/\(-1800000000<p.lon.val/\p.lon.val<=1800000000):=by
 simp only [zab,zdc,Tr.get,zal,zer]
 by_cases h1: -900000000<=p.lat.val<;>by_cases h2:p.lat.val<=900000000<;>by_cases h3: -1800000000<p.lon.val<;>simp [h1,h2,h3]
theorem vl_iff (p:Ev.Place):zac p=true↔zab p.pt=true/\(-20000000<=p.h.val/\p.h.val<=20000000000):=by
 simp only [zac,zdd,Tr.get,zbG,zea,zal,zer]
 cases zab p.pt<;>by_cases h1: -20000000<=p.h.val<;>by_cases h2:p.h.val<=20000000000<;>simp [h1,h2]
def ptL (p:zdz):List UInt8:=dgL p.lat.val++32::dgL p.lon.val
def plL (p:Ev.Place):List UInt8:=ptL p.pt++32::Lib.itoa p.h.val
theorem dgL_ne (n:Int):dgL n ≠ []:=by
 unfold dgL absL
 split<;>simp
theorem dgR_of {s:ByteArray} {n:Int} (h0: -10000000000000000<n) (h1:n<10000000000000000) (e:s.data.toList=dgL n):dgR s=some n:=by
 cases h:dgR s with
 | none=>
  unfold dgR at h
  rw [dif_pos ⟨n,h0,h1,e⟩] at h
  cases h
 | some m=>
  obtain ⟨k1,k2,k3⟩:=dgR_some h
  rw [dgL_inj h0 h1 k2 k3 (e.symm.trans k1)]
structure OkPt (t:ByteArray) (r:T2 zdz Bool):Prop where
 yes:r.b=true->t.data.toList=ptL r.a/\zab r.a=true
 no:r.b=false->r.a=pt0
 back:∀p:zdz,zab p=true->t.data.toList=ptL p->r.b=true/\r.a=p
theorem dg_some {s:ByteArray} (h:dgB s=true):s.data.toList=dgL (dgI s).val:=by
 unfold dgB at h
 cases k:dgR s with
 | none=>rw [k] at h;cases h
 | some n=>rw [dgI_val,k];exact (dgR_some k).1
theorem pt_ok (t:ByteArray):OkPt t (rpF t):=by
 have hc1:(c1 t bl).data.toList=(Lib.cut t.data.toList [32]).1:=rfl
 have hc2:(c2 t bl).data.toList=(Lib.cut t.data.toList [32]).2.1:=rfl
 refine ⟨fun h=>?_,fun h=>?_,fun p hp e=>?_⟩
 ·unfold rpF at h ⊢
  cases b1:dgB (c1 t bl) with
  | false=>rw [b1] at h;cases h
  | true=>cases b2:dgB (c2 t bl) with
   | false=>rw [b1,b2] at h;cases h
   | true=>cases b3:zab (ptOf t) with
    | false=>rw [b1,b2,b3] at h;cases h
    | true=>
     refine ⟨?_,b3⟩
     have e1:=dg_some b1
     have e2:=dg_some b2
     rw [hc1] at e1
     rw [hc2] at e2
     show t.data.toList=dgL (dgI (c1 t bl)).val++32::dgL (dgI (c2 t bl)).val
     rcases cut_spec 32 t.data.toList with ⟨_,k⟩|⟨_,_,k⟩
     ·rw [<- e1,<- e2];exact k
     ·rw [k] at e2;exact absurd e2.symm (dgL_ne _)
 ·unfold rpF at h ⊢
  cases b1:dgB (c1 t bl) with
  | false=>rfl
  | true=>cases b2:dgB (c2 t bl) with
   | false=>rfl
   | true=>cases b3:zab (ptOf t) with
    | false=>rfl
    | true=>rw [b1,b2,b3] at h;cases h
 ·have hv:=(vp_iff p).1 hp
  have hw:=cut_word (c:=32) (dgL p.lat.val) (dgL p.lon.val) (dgL_noblank _ (by omega) (by omega))
  rw [show dgL p.lat.val++32::dgL p.lon.val=t.data.toList from e.symm] at hw
  rw [hw] at hc1 hc2
  have r1:=dgR_of (by omega) (by omega) hc1
  have r2:=dgR_of (by omega) (by omega) hc2
  have b1:dgB (c1 t bl)=true:=by unfold dgB;rw [r1];rfl
  have b2:dgB (c2 t bl)=true:=by unfold dgB;rw [r2];rfl
  have i1:dgI (c1 t bl)=p.lat:=i64_ext (by rw [dgI_val,r1];rfl)
  have i2:dgI (c2 t bl)=p.lon:=i64_ext (by rw [dgI_val,r2];rfl)
  have i3:ptOf t=p:=by unfold ptOf;rw [i1,i2]
  unfold rpF
  rw [b1,b2,i3,hp]
  exact ⟨rfl,rfl⟩
structure OkPl (s:ByteArray) (r:T2 Ev.Place Bool):Prop where
 yes:r.b=true->s.data.toList=plL r.a/\zac r.a=true
 no:r.b=false->r.a=pl0
 back:∀p:Ev.Place,zac p=true->s.data.toList=plL p->r.b=true/\r.a=p
def iF (s:ByteArray):T2 Ev.Place Bool:=bif decide ((ix s).val<0) then ⟨pl0,false⟩ else bif !(rpF (s1 s)).b then ⟨pl0,false⟩ else bif !(rdB (s2 s)) then ⟨pl0,false⟩ else bif !(zac (plOf s)) then ⟨pl0,false⟩ else ⟨plOf s,true⟩
theorem ext_list (s:ByteArray) (a b:Nat):(s.extract a b).data.toList=(s.data.toList.take b).drop a:=by rw [Lib.extract_data,List.drop_take]
theorem ix_spec (s:ByteArray) (hs:s.size<=2000000):((ix s).val= -1/\(32:UInt8)∉s.data.toList)\/∃i:Nat,(ix s).val=i/\i<s.size/\s.data.toList[i]?=some 32/\∀j:Nat,i<j->s.data.toList[j]?≠some 32:=by
 have hv:(ix s).val=Lib.lastIndexByte s 32:=liI_val s sp8 hs
 have hb:∀j:Nat,j<s.size->∃c:UInt8,s.data.toList[j]?=some c/\(s.data[j]!)=c:=fun j hj=>by
  refine ⟨s.data[j]!,?_,rfl⟩
  rw [Array.getElem?_toList,getElem!_pos s.data j hj,Array.getElem?_eq_getElem hj]
 have ht:∀c:UInt8,(c.toNat:Int)=32->c=32:=fun c h=>UInt8.toNat.inj (show c.toNat=(32:UInt8).toNat by have:(32:UInt8).toNat=32:=rfl;omega)
 rcases Lib.lastIndexByte_spec s 32 with ⟨k1,k2⟩|⟨i,k1,k2,k3,k4⟩
 ·refine .inl ⟨by rw [hv,k1],fun hm=>?_⟩
  obtain ⟨j,hj,e⟩:=List.getElem_of_mem hm
  obtain ⟨c,e1,e2⟩:=hb j hj
  rw [List.getElem?_eq_getElem hj,e] at e1
  cases e1
  exact k2 j hj (by rw [e2];rfl)
 ·refine .inr ⟨i,by rw [hv,k2],k1,?_,fun j hj e=>?_⟩
  ·obtain ⟨c,e1,e2⟩:=hb i k1
   rw [e1,ht c (by rw [<- e2];exact k3)]
  ·have hjs:j<s.size:=by
    rcases Nat.lt_or_ge j s.size with k|k
    ·exact k
    ·rw [List.getElem?_eq_none (show s.data.toList.length<=j from k)] at e;cases e
   obtain ⟨c,e1,e2⟩:=hb j hjs
   rw [e1] at e
   cases e
   exact k4 j hj hjs (by rw [e2];rfl)
theorem r5_iF (s:ByteArray) (hs:s.size<=1048576):Tb11.run B11 [enc s] (T2 Ev.Place Bool)=some (iF s):=by
 rw [r5,show gSize s=true from decide_eq_true (by omega)]
 simp only [cond_true]
 unfold iF
 have hz:∀t:ByteArray,t.size<=2000000->gSize t=true:=fun t h=>decide_eq_true h
 have hl:s.data.toList.length=s.size:=rfl
 rcases ix_spec s (by omega) with ⟨k,_⟩|⟨i,k,hi,_⟩
 ·rw [show decide ((ix s).val<0)=true from decide_eq_true (by omega)];rfl
 ·rw [show decide ((ix s).val<0)=false from decide_eq_false (by omega)]
  have hj:(jx s).val=((i+1:Nat):Int):=by
   unfold jx
   rw [wi (by omega) (by omega)];omega
  have z1:(s1 s).size<=s.size:=by
   show (s.extract _ _).data.toList.length<=s.size
   rw [ext_list,List.length_drop,List.length_take];omega
  have z2:(s2 s).size<=s.size:=by
   show (s.extract _ _).data.toList.length<=s.size
   rw [ext_list,List.length_drop,List.length_take];omega
  have hp:gPt (s1 s)=true:=by
   have hc:=cut_len 32 (s1 s).data.toList
   rw [show (s1 s).data.toList.length=(s1 s).size from rfl] at hc
   unfold gPt
   rw [hz _ (by omega),hz (c1 (s1 s) bl) (by show (Lib.cut (s1 s).data.toList [32]).1.length<=_;omega),hz (c2 (s1 s) bl) (by show (Lib.cut (s1 s).data.toList [32]).2.1.length<=_;omega)]
   rfl
  rw [show (decide (0<=(ix s).val)&&decide ((ix s).val<=(s.size:Int)))=true from by simp;omega,hp,show (decide (0<=(jx s).val)&&decide ((jx s).val<=(s.size:Int)))=true from by simp;omega,hz (s2 s) (by omega)]
  simp only [cond_true,cond_false]
  cases (rpF (s1 s)).b<;>cases rdB (s2 s)<;>cases zac (plOf s)<;>rfl
theorem num_of {n:Int} (h0: -20000000<=n) (h1:n<=20000000000) {t:ByteArray} (e:t.data.toList=Lib.itoa n):rdV t=n/\rdB t=true:=by
 refine rd_some (numL_of (by omega) (by omega) e.symm ?_)
 rw [e]
 by_cases hn:n<0
 ·rw [Rp.itoa_ng hn,un_neg]
  have:=(Pp.pad_dec 11 n.natAbs (by show _<1000000000000;omega)).1
  omega
 ·have h2:=itoa_le 11 n.toNat (by show _<1000000000000;omega)
  rw [show ((n.toNat:Nat):Int)=n by omega] at h2
  have h3:(un (Lib.itoa n)).length<=(Lib.itoa n).length:=by
   show (Lib.trimPrefix _ _).length<=_
   unfold Lib.trimPrefix
   split
   ·simp
   ·exact Nat.le_refl _
  omega
theorem num_some {t:ByteArray} (h:rdB t=true):t.data.toList=Lib.itoa (rdV t):=by
 unfold rdB rdV at *
 cases k:numL t.data.toList with
 | none=>rw [k] at h;cases h
 | some v=>exact (numL_some k).1
theorem iF_ok (s:ByteArray) (hs:s.size<=1048576):OkPl s (iF s):=by
 have hp:=pt_ok (s1 s)
 have hl:s.data.toList.length=s.size:=rfl
 -- the parts, where there is a blank
 have parts:∀i:Nat,(ix s).val=i->i<s.size->s.data.toList[i]?=some 32->(s1 s).data.toList=s.data.toList.take i/\(s2 s).data.toList=s.data.toList.drop (i+1)/\s.data.toList=s.data.toList.take i++32::s.data.toList.drop (i+1):=by
  intro i k hi he
  have hj:(jx s).val=((i+1:Nat):Int):=by
   unfold jx
   rw [wi (by omega) (by omega)];omega
  refine ⟨?_,?_,?_⟩
  ·show (s.extract _ _).data.toList=_
   rw [ext_list,k];rfl
  ·show (s.extract _ _).data.toList=_
   rw [ext_list,hj,List.take_of_length_le (by omega)];rfl
  ·have h1:=List.drop_eq_getElem_cons (l:=s.data.toList) (i:=i) (by omega)
   rw [List.getElem?_eq_getElem (by omega)] at he
   rw [Option.some.inj he] at h1
   rw [<- h1,List.take_append_drop]
 refine ⟨fun h=>?_,fun h=>?_,fun p hpv e=>?_⟩
 ·rcases ix_spec s (by omega) with ⟨k,_⟩|⟨i,k,hi,he,_⟩
  ·unfold iF at h
   rw [show decide ((ix s).val<0)=true from decide_eq_true (by omega)] at h
   cases h
  ·unfold iF at h ⊢
   rw [show decide ((ix s).val<0)=false from decide_eq_false (by omega)] at h ⊢
   cases b1:(rpF (s1 s)).b with
   | false=>rw [b1] at h;cases h
   | true=>cases b2:rdB (s2 s) with
    | false=>rw [b1,b2] at h;cases h
    | true=>cases b3:zac (plOf s) with
     | false=>rw [b1,b2,b3] at h;cases h
     | true=>
      refine ⟨?_,b3⟩
      obtain ⟨q1,q2,q3⟩:=parts i k hi he
      have e1:=(hp.yes b1).1
      have e2:=num_some b2
      show s.data.toList=ptL (rpF (s1 s)).a++32::Lib.itoa (rdI (s2 s)).val
      rw [rdI_val,<- e2,<- e1,q1,q2]
      exact q3
 ·unfold iF at h ⊢
  cases b0:decide ((ix s).val<0) with
  | true=>rfl
  | false=>cases b1:(rpF (s1 s)).b with
   | false=>rfl
   | true=>cases b2:rdB (s2 s) with
    | false=>rfl
    | true=>cases b3:zac (plOf s) with
     | false=>rfl
     | true=>rw [b0,b1,b2,b3] at h;cases h
 ·obtain ⟨v1,v2⟩:=(vl_iff p).1 hpv
  rcases ix_spec s (by omega) with ⟨_,k⟩|⟨i,k,hi,he,ha⟩
  ·exact absurd (show (32:UInt8)∈s.data.toList by rw [e];unfold plL;simp) k
  ·obtain ⟨q1,q2,q3⟩:=parts i k hi he
   have hnb:=Rp.itoa_noblank p.h.val
   have hi2:i=(ptL p.pt).length:=by
    have hat:s.data.toList[(ptL p.pt).length]?=some 32:=by
     rw [e];unfold plL
     rw [List.getElem?_append_right (Nat.le_refl _),Nat.sub_self];rfl
    rcases Nat.lt_trichotomy i (ptL p.pt).length with c|c|c
    ·exact absurd hat (ha _ c)
    ·exact c
    ·exfalso
     rw [e] at he
     unfold plL at he
     rw [List.getElem?_append_right (by omega),show i-(ptL p.pt).length=(i-(ptL p.pt).length-1)+1 by omega,List.getElem?_cons_succ] at he
     exact hnb (List.mem_of_getElem? he)
   have t1:(s1 s).data.toList=ptL p.pt:=by rw [q1,e,hi2];unfold plL;simp
   have t2:(s2 s).data.toList=Lib.itoa p.h.val:=by
    rw [q2,e,hi2];unfold plL
    rw [List.drop_append,List.drop_eq_nil_of_le (by omega),show (ptL p.pt).length+1-(ptL p.pt).length=1 by omega];rfl
   obtain ⟨r1,r2⟩:=hp.back p.pt v1 t1
   obtain ⟨n1,n2⟩:=num_of v2.1 v2.2 t2
   have hpl:plOf s=p:=by
    unfold plOf
    rw [r2,show rdI (s2 s)=p.h from i64_ext (by rw [rdI_val,n1])]
   unfold iF
   rw [show decide ((ix s).val<0)=false from decide_eq_false (by omega),r1,n2,hpl,hpv]
   exact ⟨rfl,rfl⟩
end Go.Proofs.YtlolpmmloolieaaGreatDoor.Tx
namespace Go.Proofs.YtlolpmmloolieaaGreatDoor.Tx
open Go Go.RowKit Go.Proofs.YtlolpmmloolieaaGreatDoor.Rq Go.Proofs.YtlolpmmloolieaaGreatDoor.Rt
open Go.Proofs.YtlolpmmloolieaaGreatDoor.Ev
set_option maxRecDepth 100000
variable [Amb]
def decB (n:I64):ByteArray:=⟨(Lib.itoa n.val).toArray⟩
def B43:Bod Tryz.prog:=⟨43,Tryz.f43,Tryz.f43.body.getD .skip,Tryz.func43,by kernel_rfl,by kernel_rfl,zai.no _ _⟩
def E_Decimal : Ent Tryz.prog where
  id := 43
  g := fun _ _ => true
  fn := fun vs _ => match vs with
    | [.i64 n] => some (.str (decB n))
    | _ => none
  ok := fun vs m v hg hf w0 ρ xs w hv hm => by
    split at hf <;> try (cases hf;done)
    rename_i n
    cases hf
    cases hv with
    | cons h1 t => cases t;cases h1
                   refine does_calls B43 ((dec_calls n.val n.bd.1 n.bd.2 w (ir_of hm.invw)).mono fun e w' he => ?_)
                   obtain ⟨rfl, hb⟩ := he
                   exact ⟨_, rfl, .str _, hb⟩
theorem dt7 (m:Int) (hm0: -1000000000000000000<m) (hm:m<1000000000000000000) (w:World) (hI:IR w):
  Calls Tryz.prog 122 #[.int .i64 m,.int .i64 7] w fun e w'=>∃T:ByteArray,e= .returned (.string T)/\Below w.heap.size w w'/\T.data.toList=dgL m:=
 (dt_calls m 7 hm0 hm (by omega) w hI).mono fun e w' ⟨T,h1,h2,h3⟩=>⟨T,h1,h2,h3 rfl⟩
theorem deg_calls (n:Int) (h0: -1000000000000000000<n) (h1:n<1000000000000000000) (w:World) (hI:IR w):Calls Tryz.prog 87 #[.int .i64 n] w fun e w'=>e= .returned (.string ⟨(dgL n).toArray⟩)/\Below w.heap.size w w':=by
 have HB:=Below.refl w.heap.size w
 go_enter Tryz.func87,Tryz.ntmps87
 go_wp2_with (first
  | (go_at_call 122;refine (dt7 n h0 h1 _ (hI.same HB)).mono ?_;rintro e w1 ⟨T,rfl,h2,h3⟩;replace HB:=Go.Proofs.YtlolpmmloolieaaGreatDoor.Rt.step HB h2;replace h3:=Aside.mk h3))
 go_ret
 refine ⟨?_,HB⟩
 rw [<- h3.out];rfl
def degG (n:I64):Bool:=decide (-1000000000000000000<n.val)&&decide (n.val<1000000000000000000)
def degB (n:I64):ByteArray:=⟨(dgL n.val).toArray⟩
def B87:Bod Tryz.prog:=⟨87,Tryz.f87,Tryz.f87.body.getD .skip,Tryz.func87,by kernel_rfl,by kernel_rfl,zai.no _ _⟩
def E_degrees : Ent Tryz.prog where
  id := 87
  g := fun vs _ => match vs with
    | [.i64 n] => degG n
    | _ => false
  fn := fun vs _ => match vs with
    | [.i64 n] => some (.str (degB n))
    | _ => none
  ok := fun vs m v hg hf w0 ρ xs w hv hm => by
    split at hf <;> try (cases hf;done)
    rename_i n
    cases hf
    simp only [degG, Bool.and_eq_true, decide_eq_true_eq] at hg
    cases hv with
    | cons h1 t => cases t;cases h1
                   refine does_calls B87 ((deg_calls n.val hg.1 hg.2 w (ir_of hm.invw)).mono fun e w' he => ?_)
                   obtain ⟨rfl, hb⟩ := he
                   exact ⟨_, rfl, .str _, hb⟩
def fitB (a b:ByteArray):Bool:=decide (a.size+b.size<=9223372036854775807)
def sp1:ByteArray:=⟨#[32]⟩
def pT1 (p:zdz):ByteArray:=degB p.lat++sp1
def pT (p:zdz):ByteArray:=pT1 p++degB p.lon
def B42:Bod Tryz.prog:=⟨42,Tryz.f42,Tryz.f42.body.getD .skip,Tryz.func42,by kernel_rfl,by kernel_rfl,zai.no _ _⟩
def Tb42:Tb Tryz.prog:= {T:= [Y2,Y9,Y28],mix:=mix,Es:= [E_degrees],Bs:= [],d:=1}
def ptO (p:zdz):Option ByteArray:=bif degG p.lat then bif fitB (degB p.lat) sp1 then bif degG p.lon then bif fitB (pT1 p) (degB p.lon) then some (pT p) else none else none else none else none
theorem r42 (p:zdz):Tb42.run B42 [enc p] ByteArray=ptO p:=by kernel_rfl
theorem mk_size (l:List UInt8):(⟨l.toArray⟩:ByteArray).size=l.length:=by simp [ByteArray.size]
theorem dgL_len {n:Int} (h0: -10000000000<n) (h1:n<10000000000):(dgL n).length<=60:=by
 have key:∀m:Int,0<=m->m<10000000000->(absL m).length<=59:=fun m m0 m1=>by
  have r1:=Int.tmod_lt_of_pos m (b:=10000000) (by decide)
  have r2:=Int.tmod_nonneg 10000000 m0
  have l1:=Pp.itoa_len (m.tdiv 10000000) (by have:=Int.tdiv_nonneg m0 (by decide:(0:Int)<=10000000);omega) (by have:=Int.tdiv_le_self 10000000 m0;omega)
  have l2:=Pp.itoa_len (m.tmod 10000000) (by omega) (by omega)
  have l3:=rep_len (7-(Lib.itoa (m.tmod 10000000)).length)
  unfold absL padL
  simp only [List.length_append,List.length_cons]
  omega
 unfold dgL
 split
 ·have:=key (-n) (by omega) (by omega)
  simp only [List.length_cons];omega
 ·have:=key n (by omega) (by omega)
  omega
theorem fit_of {a b:ByteArray} (h:a.size+b.size<=1000):fitB a b=true:=by unfold fitB;simp only [decide_eq_true_eq];omega
theorem decB_size (n:I64):(decB n).size<=21:=by unfold decB;rw [mk_size];exact Pp.itoa_len n.val n.bd.1 n.bd.2
theorem pt_text {p:zdz} (h:zab p=true):ptO p=some (pT p)/\(pT p).size<=121:=by
 obtain ⟨h1,h2⟩:=(vp_iff p).1 h
 have s1:(degB p.lat).size<=60:=by unfold degB;rw [mk_size];exact dgL_len (by omega) (by omega)
 have s2:(degB p.lon).size<=60:=by unfold degB;rw [mk_size];exact dgL_len (by omega) (by omega)
 have s3:(pT1 p).size<=61:=by unfold pT1;rw [ByteArray.size_append];show _+1<=61;omega
 unfold ptO
 rw [show degG p.lat=true by simp [degG];omega,show degG p.lon=true by simp [degG];omega,fit_of (show (degB p.lat).size+1<=1000 by omega),fit_of (by omega)]
 refine ⟨rfl,?_⟩
 unfold pT;rw [ByteArray.size_append];omega
def E_pointText:Ent Tryz.prog:= .of1 Tb42 B42 zab pT fun p h=>(r42 p).trans (pt_text h).1
def pl1 (q:Ev.Place):ByteArray:=pT q.pt++sp1
def plT (q:Ev.Place):ByteArray:=pl1 q++decB q.h
def plO (q:Ev.Place):Option ByteArray:=bif zab q.pt then bif fitB (pT q.pt) sp1 then bif fitB (pl1 q) (decB q.h) then some (plT q) else none else none else none
def B12:Bod Tryz.prog:=⟨12,Tryz.f12,Tryz.f12.body.getD .skip,Tryz.func12,by kernel_rfl,by kernel_rfl,zai.no _ _⟩
def Tb12:Tb Tryz.prog:= {T:= [Y2,Y9,Y28,Y30],mix:=mix,Es:= [zeG,E_pointText,E_Decimal],Bs:= [],d:=1}
theorem r12t (q:Ev.Place):Tb12.run B12 [enc q] ByteArray=bif !(zac q) then some ⟨#[]⟩ else plO q:=by kernel_rfl
theorem pl_text {q:Ev.Place} (h:zac q=true):Tb12.run B12 [enc q] ByteArray=some (plT q)/\(plT q).size<=1000:=by
 have hp:=((vl_iff q).1 h).1
 have s1:=(pt_text hp).2
 have s2:=decB_size q.h
 have s3:(pl1 q).size<=122:=by unfold pl1;rw [ByteArray.size_append];show _+1<=122;omega
 rw [r12t,h]
 unfold plO
 rw [hp,fit_of (show (pT q.pt).size+1<=1000 by omega),fit_of (by omega)]
 refine ⟨rfl,?_⟩
 unfold plT;rw [ByteArray.size_append];omega
theorem plT_list (q:Ev.Place):(plT q).data.toList=plL q:=by
 unfold plT pl1 pT pT1 degB decB sp1 plL ptL
 rw [show (⟨#[32]⟩:ByteArray)=⟨[32].toArray⟩ from rfl,Pp.ba_mk,Pp.ba_mk,Pp.ba_mk,Pp.ba_mk]
 simp
theorem read_text {q:Ev.Place} (h:zac q=true):iF (plT q)=⟨q,true⟩:=by
 have hs:=(pl_text h).2
 obtain ⟨k1,k2⟩:=(iF_ok (plT q) (by omega)).back q h (plT_list q)
 generalize iF (plT q)=r at *
 obtain ⟨a,b⟩:=r
 cases k1;cases k2;rfl
end Go.Proofs.YtlolpmmloolieaaGreatDoor.Tx
namespace Go.Proofs.YtlolpmmloolieaaGreatDoor.Ev
open Go Go.RowKit
variable [Amb]
def zfg:Place->ByteArray:=Tx.plT
def G_impl_PlaceText:Place->Bool:=zac
def E_impl_PlaceText:Ent Tryz.prog:= .of1 Tx.Tb12 Tx.B12 G_impl_PlaceText zfg fun q h=>(Tx.pl_text h).1
def F_impl_ReadPlace:ByteArray->T2 Place Bool:=Tx.iF
def G_impl_ReadPlace:ByteArray->Bool:=fun s=>decide (s.size<=1048576)
def E_impl_ReadPlace:Ent Tryz.prog:= .of1 Tx.Tb11 Tx.B11 G_impl_ReadPlace F_impl_ReadPlace fun s h=>Tx.r5_iF s (of_decide_eq_true h)
end Go.Proofs.YtlolpmmloolieaaGreatDoor.Ev
