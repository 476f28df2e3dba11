/- The law FnExactPathLength gives true, whatever comes in; each argument reads behind the call as it read before. No conditions. (One of the texts of its proof, put together by a program of this session.) -/
import Derived.Test.YtkenfaengphiiaaGreatZEC
import Derived.Test.YtkenfaengphiiaaGreatZWI
import Derived.Test.YtkenfaengphiiaaGreatZPZ
set_option linter.unusedSectionVars false
set_option linter.unusedSimpArgs false
set_option linter.unusedVariables false
noncomputable section
namespace Go.Proofs.YtkenfaengphiiaaGreat.Ev
open Go Go.RowKit
variable [Amb]
def isAF:List V->Nat->Nat->Bool
 | [.arg k',.fn f' []],k,f=>Nat.beq k' k&&Nat.beq f' f
 | _,_,_=>false
theorem isAF_eq {vs:List V} {k f:Nat} (h:isAF vs k f=true):vs= [.arg k,.fn f []]:=by
 unfold isAF at h
 split at h
 ·simp only [Bool.and_eq_true] at h
  rw [Nat.eq_of_beq_eq_true h.1,Nat.eq_of_beq_eq_true h.2]
 ·cases h
def Ent.exactAF {P:Program} (t:Tb P) (b:Bod P) (k f:Nat) {γ:Type} [Enc γ] (G:Bool) (y:γ) (h:G=true->t.run b [.arg k,.fn f []] γ=some y):Ent P where
 id:=b.id
 g:=fun vs _=>isAF vs k f&&G
 fn:=fun vs _=>bif isAF vs k f then some (enc y) else none
 ok:=fun vs m v hg hf w0 ρ xs w hv hm=>by
  simp only [Bool.and_eq_true] at hg
  obtain ⟨h1,h2⟩:=hg
  simp only [h1,cond_true,Option.some.injEq] at hf
  subst hf
  obtain rfl:=isAF_eq h1
  exact Tb.run_does (h h2) hv rfl hm.amb
def ptrK (γ:Type) [Enc γ] (v:V) (m:Mem):Option γ:=match v with
 | .tup [.ptr b o,.i64 c]=>bif Nat.beq o 0&&(Nat.ble m.lo b&&c.val==0) then match lk m.blks b with
   | some cs=>dec (.agg cs)
   | none=>none
  else none
 | _=>none
def Tb.runP {P:Program} (t:Tb P) (b:Bod P) (vs:List V) (γ:Type) [Enc γ]:Option γ:=
 runk t.T (callk t.T (fun _=>t.drw) t.Es t.Bs t.N t.d) t.drw t.N b vs ⟨[],0,0⟩ (ptrK γ)
theorem Tb.runP_sound {P:Program} {t:Tb P} {b:Bod P} {vs:List V} {γ:Type} [Enc γ] {y:γ} (h:t.runP b vs γ=some y) {ρ:Nat->Option Nat} {xs:List Value} {w:World}
  (hv:VRs ρ vs xs) (hp:V.pfs vs=true) (ha:Am w):
  Calls P b.id xs.toArray w fun e w'=>∃r ys ty,e= .returned (.tuple #[.pointer (some ⟨r,0,none⟩),.int .i64 0])/\w.heap.size<=r/\w'.heap[r]?=some (.cells ys.toArray ty (0,0))/\(∀ρ,VRs ρ (enc y).cells ys)/\Below w.heap.size w w':=by
 refine (runk_sound (w0:=w) (callk_ok (fun _ _=>t.draw_ok w) t.d) (t.draw_ok w) h (ρ:=fun _=>none) (hv.pf hp) (MRel.empty ha)).mono fun e w' he=>?_
 obtain ⟨v,m',ρ',x,rfl,h1,h2,h3,h4⟩:=he
 unfold ptrK at h4
 split at h4<;>try (cases h4;done)
 rename_i b o c
 cases hb:(Nat.beq o 0&&(Nat.ble m'.lo b&&c.val==0)) with
 | false=>simp [hb] at h4
 | true=>
  simp only [hb,cond_true] at h4
  simp only [Bool.and_eq_true] at hb
  obtain ⟨ho,hlo,hc0⟩:=hb
  obtain rfl:=Nat.eq_of_beq_eq_true ho
  have hc0:c.val=0:=by simpa using hc0
  split at h4<;>try (cases h4;done)
  rename_i cs hcs
  have e1:=Enc.dec_enc _ _ h4
  have hpf:=Enc.pf y
  rw [<- e1] at hpf
  cases h2 with
  | tup h2=>
   cases h2 with
   | cons q1 q2=>
    cases q2 with
    | cons q2 q3=>
     cases q3
     cases q1
     cases q2
     rename_i r hr
     obtain ⟨r',ys,ty,k1,k2,k3⟩:=h3.blk b cs hcs
     rw [hr] at k1;cases k1
     refine ⟨r,ys,ty,by rw [hc0],h3.own b r (Nat.le_of_ble_eq_true hlo) hr,k2,fun ρ=>?_,h3.bel⟩
     rw [show (enc y)=V.agg cs from e1.symm]
     exact VRs.pf (vs:=cs) k3 (by simpa [V.pf] using hpf)
def Ent.mkp3 {P:Program} {α β δ γ:Type} [Enc α] [Enc β] [Enc δ] [Enc γ] (t:Tb P) (b:Bod P) (G:α->β->δ->Bool) (F:α->β->δ->γ)
  (h:∀x y z,G x y z=true->t.runP b [enc x,enc y,enc z] γ=some (F x y z)):Ent P where
 id:=b.id
 g:=fun _ _=>false
 fn:=fun _ _=>none
 ok:=fun vs m v hg hf w0 ρ xs w hv hm=>by cases hg
 mkp:=fun vs=>match vs with
  | [x,y,z]=>match (dec x:Option α),(dec y:Option β),(dec z:Option δ) with
   | some x,some y,some z=>some (G x y z,(enc (F x y z)).cells)
   | _,_,_=>none
  | _=>none
 mkpok:=fun vs cs hf w0 ρ m xs w hv hm=>by
  split at hf<;>try (cases hf;done)
  split at hf<;>try (cases hf;done)
  rename_i x y z hx hy hz
  simp only [Option.some.injEq,Prod.mk.injEq] at hf
  obtain ⟨hg,rfl⟩:=hf
  have e1:=Enc.dec_enc _ _ hx
  have e2:=Enc.dec_enc _ _ hy
  have e3:=Enc.dec_enc _ _ hz
  subst e1;subst e2;subst e3
  intro o a next Q hn
  rw [callFunc_enter,Oper.upon_enter]
  refine (Tb.runP_sound (h x y z hg) hv (by simp [V.pfs,Enc.pf]) hm.amb).mono fun e w' he=>?_
  obtain ⟨r,ys,ty,rfl,k1,k2,k3,k4⟩:=he
  exact hn _ w' ⟨r,ys,ty,rfl,k1,k2,k3,k4⟩
end Go.Proofs.YtkenfaengphiiaaGreat.Ev
namespace Go.Proofs.YtkenfaengphiiaaGreat.Ev
open Go Go.RowKit
set_option maxRecDepth 100000
section
variable [Amb]
def B178:Bod Tryz.prog:=⟨178,Tryz.f178,Tryz.f178.body.getD .skip,Tryz.func178,by kernel_rfl,by kernel_rfl,zK.no _ _⟩
structure zac where
 x0:I64
 x1:I64
 x2:I64
instance:Inhabited zac:=⟨⟨default,default,default⟩⟩
def zcW (x:zac):St:=⟨[(0,.arg 0),(1,.fn 178 []),(4,.i64 x.x0),(7,.i64 x.x1),(8,.i64 x.x2)],19,⟨[],0,0⟩⟩
def zcX:St->Option zac:=fun s=>match s with
 | ⟨[(0,.arg 0),(1,.fn 178 []),(4,.i64 x0),(7,.i64 x1),(8,.i64 x2)],19,⟨[],0,0⟩⟩=>some ⟨x0,x1,x2⟩
 | _=>none
def zaw (x:zac):Tr (Lp2 zac):=
 .br (decide (x.x2.val<x.x1.val)) (.br (decide (0<=x.x2.val)&&decide (x.x2.val<(Amb.len 0:Int))&&Nat.beq 2 2) (.br (decide (0<=x.x2.val)&&decide (x.x2.val<(Amb.len 0:Int))&&Nat.beq 2 2) (.br (!(zcT ⟨(Amb.el 0 x.x2.val).1,(Amb.el 0 x.x2.val).2⟩)) (.leaf (.out ⟨x.x2,x.x1,x.x2⟩)) (.leaf (.again ⟨x.x0,x.x1,(Rng.w .i64 (x.x2.val+1))⟩))) (.bad)) (.bad)) (.leaf (.alt ⟨x.x0,x.x1,x.x2⟩))
def zbd (x:zac):Bool:=(Lf2 zaw 1048580 x).opt.isSome
def zbP (x:zac):Tw zac:=(Lf2 zaw 1048580 x).get
def zfL:Tb Tryz.prog:= {T:= [Y24,Y101],mix:=mix,Es:= [E_impl_ValidPoint],Bs:= [B178],d:=8}
def zbO:LpF:=loopF2 [0,1,4,7,8] [] 0 zcX zcW .ret (.exit 0) zbd zbP
theorem zfK:LoopOk Tryz.prog (loopAt (Tryz.f285.body.getD .skip) 0) zbO:=loopF2_ok (t:=zfL) (lt:=fun _=>none) (body:=zaw) (n:=1048580) (by intro h;cases h) (by intro h;cases h) (fun _ _ _ h=>by cases h)
 (by intro s x h;unfold zcX at h;split at h<;>cases h;rfl) (fun x b cs h=>lk_lt (l:=(zcW x).mm.blks) (by kernel_rfl) h) (by intro x;kernel_rfl) (fun x h=>Tr.get_some h)
def B285:Bod Tryz.prog:=⟨285,Tryz.f285,Tryz.f285.body.getD .skip,Tryz.func285,by kernel_rfl,by kernel_rfl,⟨ltOf [(2,zbO)],zK.of (ks:= [2]) (by kernel_rfl) (by
 intro i k h f hf
 match i,h with
 | 0,h=>cases h;obtain rfl:zbO=f:=Option.some.inj hf;exact zfK
 | n+1,h=>simp at h)⟩⟩
def Tb285:Tb Tryz.prog:= {T:= [Y24,Y101],mix:=mix,Es:= [],Bs:= [],d:=1}
def zaX:Tr (I64):=
 .br (zbd ⟨⟨0,rfl⟩,(lenA 0),⟨0,rfl⟩⟩) (let c4:=zbP ⟨⟨0,rfl⟩,(lenA 0),⟨0,rfl⟩⟩;.br c4.b (.leaf c4.s.x0) (.leaf ⟨(-1),rfl⟩)) (.bad)
theorem r_slices_IndexFunc__impl_Point_impl_Point:Tb285.run B285 [.arg 0,.fn 178 []] (I64)=(zaX).opt:=by kernel_rfl
def zbY:I64:=zaX.get
def zbi:Bool:=zaX.opt.isSome
def E_slices_IndexFunc__impl_Point_impl_Point:Ent Tryz.prog:= .exactAF Tb285 B285 0 178 zbi zbY fun h=>r_slices_IndexFunc__impl_Point_impl_Point.trans (Tr.get_some h)
def B180:Bod Tryz.prog:=⟨180,Tryz.f180,Tryz.f180.body.getD .skip,Tryz.func180,by kernel_rfl,by kernel_rfl,zK.no _ _⟩
def Tb180:Tb Tryz.prog:= {T:= [Y2,Y4,Y24,Y30,Y57,Y184],mix:=mix,Es:= [E_impl_areValid,zbF,E_impl_LatOf,ET_impl_RadiansOf,E_impl_AbsI,E_impl_WrapLon,E_impl_LatitudeI],Bs:= [],d:=1}
def ze0 (a0:Ell) (a1:zbN) (a2:zbN):Tr (Geo):=
 .br (!(zaU a0)) (.bad) (.br (!(F_impl_areValid a1 a2)) (.bad) (let c4:=zfn (Rng.w .i64 (a2.lon.val-a1.lon.val));.leaf ⟨a0,(zdq ⟨1,rfl⟩ a0 (F_impl_LatOf a1)),(zdq ⟨1,rfl⟩ a0 (F_impl_LatOf a2)),(zeG (zeW c4)),(decide (c4.val<0))⟩))
theorem r_impl_newGeodesic (a0:Ell) (a1:zbN) (a2:zbN):Tb180.runP B180 [enc a0,enc a1,enc a2] (Geo)=(ze0 a0 a1 a2).opt:=by kernel_rfl
def F_impl_newGeodesic:Ell->zbN->zbN->Geo:=fun a0 a1 a2=>(ze0 a0 a1 a2).get
def G_impl_newGeodesic:Ell->zbN->zbN->Bool:=fun a0 a1 a2=>(ze0 a0 a1 a2).opt.isSome
def E_impl_newGeodesic:Ent Tryz.prog:= .mkp3 Tb180 B180 G_impl_newGeodesic F_impl_newGeodesic fun a0 a1 a2 h=>(r_impl_newGeodesic a0 a1 a2).trans (Tr.get_some h)
structure zbL where
 x0:I64
 x1:Bool
 x2:I64
 x3:I64
 x4:I64
 x5:I64
 x6:I64
 x7:I64
instance:Inhabited zbL:=⟨⟨default,default,default,default,default,default,default,default⟩⟩
def st_spec_PathLength_3 (x:zbL):St:=⟨[(1,.arg 0),(2,.i64 x.x0),(3,.ptr 0 0),(6,.ptr 1 0),(8,.bool x.x1),(9,.i64 x.x2)],67,⟨[(0,[.i64 x.x3,.i64 x.x4,.i64 x.x5]),(1,[.i64 x.x6,.i64 x.x7])],2,0⟩⟩
def rd_spec_PathLength_3:St->Option zbL:=fun s=>match s with
 | ⟨[(1,.arg 0),(2,.i64 x0),(3,.ptr 0 0),(6,.ptr 1 0),(8,.bool x1),(9,.i64 x2)],67,⟨[(0,[.i64 x3,.i64 x4,.i64 x5]),(1,[.i64 x6,.i64 x7])],2,0⟩⟩=>some ⟨x0,x1,x2,x3,x4,x5,x6,x7⟩
 | _=>none
def zcG (x:zbL):Tr (Lp zbL):=
 .br (decide (x.x2.val<(lenA 0).val)) (.br x.x1 (.br (decide (0<=x.x2.val)&&decide (x.x2.val<(Amb.len 0:Int))&&Nat.beq 2 2) (.br (decide (0<=x.x2.val)&&decide (x.x2.val<(Amb.len 0:Int))&&Nat.beq 2 2) (.leaf (.again ⟨x.x0,(zbb ⟨(Amb.el 0 x.x2.val).1,(Amb.el 0 x.x2.val).2⟩),(Rng.w .i64 (x.x2.val+1)),x.x3,x.x4,x.x5,x.x6,x.x7⟩)) (.bad)) (.bad)) (.leaf (.again ⟨x.x0,false,(Rng.w .i64 (x.x2.val+1)),x.x3,x.x4,x.x5,x.x6,x.x7⟩))) (.leaf (.out ⟨x.x0,x.x1,x.x2,x.x3,x.x4,x.x5,x.x6,x.x7⟩))
def G_spec_PathLength_3 (x:zbL):Bool:=(Lf zcG 1048580 x).opt.isSome
def L_spec_PathLength_3 (x:zbL):zbL:=(Lf zcG 1048580 x).get
def TbL_spec_PathLength_3:Tb Tryz.prog:= {T:= [Y24,Y101],mix:=mix,Es:= [E_spec_l11Ok],Bs:= [],d:=1}
def P_spec_PathLength_3:LpF:=loopF [1,2,3,6,8,9] [0,1] 2 rd_spec_PathLength_3 st_spec_PathLength_3 (.exit 0) G_spec_PathLength_3 L_spec_PathLength_3
theorem lok_spec_PathLength_3:LoopOk Tryz.prog (loopAt (Tryz.f64.body.getD .skip) 0) P_spec_PathLength_3:=zfw (t:=TbL_spec_PathLength_3) (lt:=fun _=>none) (body:=zcG) (n:=1048580) (by intro h;cases h) (fun _ _ _ h=>by cases h)
 (by intro s x h;unfold rd_spec_PathLength_3 at h;split at h<;>cases h;rfl) (fun x b cs h=>lk_lt (l:=(st_spec_PathLength_3 x).mm.blks) (by kernel_rfl) h) (by intro x;kernel_rfl) (fun x h=>Tr.get_some h)
structure zbx where
 x0:I64
 x1:I64
 x2:I64
 x3:I64
 x4:I64
 x5:I64
 x6:I64
 x7:I64
 x8:I64
instance:Inhabited zbx:=⟨⟨default,default,default,default,default,default,default,default,default⟩⟩
def st_spec_PathLength_12 (x:zbx):St:=⟨[(1,.arg 0),(2,.i64 x.x0),(3,.ptr 0 0),(6,.ptr 1 0),(10,.ptr 2 0),(11,.i64 x.x1)],67,⟨[(0,[.i64 x.x2,.i64 x.x3,.i64 x.x4]),(1,[.i64 x.x5,.i64 x.x6]),(2,[.i64 x.x7,.i64 x.x8])],3,0⟩⟩
def rd_spec_PathLength_12:St->Option zbx:=fun s=>match s with
 | ⟨[(1,.arg 0),(2,.i64 x0),(3,.ptr 0 0),(6,.ptr 1 0),(10,.ptr 2 0),(11,.i64 x1)],67,⟨[(0,[.i64 x2,.i64 x3,.i64 x4]),(1,[.i64 x5,.i64 x6]),(2,[.i64 x7,.i64 x8])],3,0⟩⟩=>some ⟨x0,x1,x2,x3,x4,x5,x6,x7,x8⟩
 | _=>none
def zdh (x:zbx):Tr (Lp zbx):=
 .br (decide (x.x1.val<(lenA 0).val)) (let c11:=(Rng.w .i64 (x.x1.val-1));.br (decide (0<=c11.val)&&decide (c11.val<(Amb.len 0:Int))&&Nat.beq 2 2) (.br (decide (0<=c11.val)&&decide (c11.val<(Amb.len 0:Int))&&Nat.beq 2 2) (.br (decide (0<=x.x1.val)&&decide (x.x1.val<(Amb.len 0:Int))&&Nat.beq 2 2) (.br (decide (0<=x.x1.val)&&decide (x.x1.val<(Amb.len 0:Int))&&Nat.beq 2 2) (let c12:=F_spec_l16Make ⟨x.x2,x.x3,x.x4⟩ ⟨(Amb.el 0 c11.val).1,(Amb.el 0 c11.val).2⟩ ⟨(Amb.el 0 x.x1.val).1,(Amb.el 0 x.x1.val).2⟩;.br (G_spec_l16S_length c12 x.x0) (let c14:=zk ⟨x.x7,x.x8⟩ (F_spec_l16S_length c12 x.x0);.leaf (.again ⟨x.x0,(Rng.w .i64 (x.x1.val+1)),x.x2,x.x3,x.x4,x.x5,x.x6,c14.lo,c14.hi⟩)) (.bad)) (.bad)) (.bad)) (.bad)) (.bad)) (.leaf (.out ⟨x.x0,x.x1,x.x2,x.x3,x.x4,x.x5,x.x6,x.x7,x.x8⟩))
def zfy (x:zbx):Bool:=(Lf zdh 100 x).opt.isSome
def L_spec_PathLength_12 (x:zbx):zbx:=(Lf zdh 100 x).get
def TbL_spec_PathLength_12:Tb Tryz.prog:= {T:= [Y2,Y24,Y30,Y57,Y101,Y147],mix:=mix,Es:= [zcn,E_spec_l16Make,E_spec_l16S_length],Bs:= [],d:=1}
def P_spec_PathLength_12:LpF:=loopF [1,2,3,6,10,11] [0,1,2] 3 rd_spec_PathLength_12 st_spec_PathLength_12 (.exit 2) zfy L_spec_PathLength_12
theorem lok_spec_PathLength_12:LoopOk Tryz.prog (loopAt (Tryz.f64.body.getD .skip) 1) P_spec_PathLength_12:=zfw (t:=TbL_spec_PathLength_12) (lt:=fun _=>none) (body:=zdh) (n:=100) (by intro h;cases h) (fun _ _ _ h=>by cases h)
 (by intro s x h;unfold rd_spec_PathLength_12 at h;split at h<;>cases h;rfl) (fun x b cs h=>lk_lt (l:=(st_spec_PathLength_12 x).mm.blks) (by kernel_rfl) h) (by intro x;kernel_rfl) (fun x h=>Tr.get_some h)
def B64:Bod Tryz.prog:=⟨64,Tryz.f64,Tryz.f64.body.getD .skip,Tryz.func64,by kernel_rfl,by kernel_rfl,⟨ltOf [(3,P_spec_PathLength_3),(12,P_spec_PathLength_12)],zK.of (ks:= [3,12]) (by kernel_rfl) (by
 intro i k h f hf
 match i,h with
 | 0,h=>cases h;obtain rfl:P_spec_PathLength_3=f:=Option.some.inj hf;exact lok_spec_PathLength_3
 | 1,h=>cases h;obtain rfl:P_spec_PathLength_12=f:=Option.some.inj hf;exact lok_spec_PathLength_12
 | n+2,h=>simp at h)⟩⟩
def Tb64:Tb Tryz.prog:= {T:= [Y2,Y24,Y30,Y57,Y101,Y147],mix:=mix,Es:= [zbl,zbu,E_spec_l12Ok,E_spec_l19Known],Bs:= [],d:=1}
def zeo (a0:Ell) (a2:I64):Tr (T2 Iv I64):=
 let c1:=zbs a0;.br (G_spec_PathLength_3 ⟨a2,c1,⟨0,rfl⟩,a0.a,a0.num,a0.den,⟨0,rfl⟩,⟨0,rfl⟩⟩) (let c6:=L_spec_PathLength_3 ⟨a2,c1,⟨0,rfl⟩,a0.a,a0.num,a0.den,⟨0,rfl⟩,⟨0,rfl⟩⟩;.br (!c6.x1) (.leaf ⟨⟨⟨0,rfl⟩,⟨0,rfl⟩⟩,⟨1,rfl⟩⟩) (.br (!(zaj c6.x0 ⟨1,rfl⟩ ⟨64,rfl⟩)) (.leaf ⟨⟨⟨0,rfl⟩,⟨0,rfl⟩⟩,⟨2,rfl⟩⟩) (.br (decide ((lenA 0).val>24)) (.leaf ⟨⟨⟨0,rfl⟩,⟨0,rfl⟩⟩,⟨2,rfl⟩⟩) (let c9:=zb ⟨0,rfl⟩;.br (zfy ⟨c6.x0,⟨1,rfl⟩,c6.x3,c6.x4,c6.x5,c6.x6,c6.x7,c9.lo,c9.hi⟩) (let c16:=L_spec_PathLength_12 ⟨c6.x0,⟨1,rfl⟩,c6.x3,c6.x4,c6.x5,c6.x6,c6.x7,c9.lo,c9.hi⟩;let c17:=F_spec_l19Known ⟨c16.x7,c16.x8⟩;.leaf ⟨c17.a,c17.b⟩) (.bad))))) (.bad)
theorem r_spec_PathLength (a0:Ell) (a2:I64):Tb64.run B64 [enc a0,.arg 0,enc a2] (T2 Iv I64)=(zeo a0 a2).opt:=by kernel_rfl
structure zbM where
 x0:I64
 x1:I64
 x2:I64
 x3:I64
 x4:I64
 x5:I64
 x6:I64
 x7:I64
 x8:I64
instance:Inhabited zbM:=⟨⟨default,default,default,default,default,default,default,default,default⟩⟩
def st_impl_PathLength_7 (x:zbM):St:=⟨[(1,.arg 0),(2,.i64 x.x0),(3,.ptr 0 0),(6,.ptr 1 0),(8,.ptr 2 0),(9,.i64 x.x1)],61,⟨[(0,[.i64 x.x2,.i64 x.x3,.i64 x.x4]),(1,[.i64 x.x5,.i64 x.x6]),(2,[.i64 x.x7,.i64 x.x8])],3,0⟩⟩
def rd_impl_PathLength_7:St->Option zbM:=fun s=>match s with
 | ⟨[(1,.arg 0),(2,.i64 x0),(3,.ptr 0 0),(6,.ptr 1 0),(8,.ptr 2 0),(9,.i64 x1)],61,⟨[(0,[.i64 x2,.i64 x3,.i64 x4]),(1,[.i64 x5,.i64 x6]),(2,[.i64 x7,.i64 x8])],3,0⟩⟩=>some ⟨x0,x1,x2,x3,x4,x5,x6,x7,x8⟩
 | _=>none
def zdu (x:zbM):Tr (Lp zbM):=
 .br (decide (x.x1.val<(lenA 0).val)) (let c7:=(Rng.w .i64 (x.x1.val-1));.br (decide (0<=c7.val)&&decide (c7.val<(Amb.len 0:Int))&&Nat.beq 2 2) (.br (decide (0<=c7.val)&&decide (c7.val<(Amb.len 0:Int))&&Nat.beq 2 2) (.br (decide (0<=x.x1.val)&&decide (x.x1.val<(Amb.len 0:Int))&&Nat.beq 2 2) (.br (decide (0<=x.x1.val)&&decide (x.x1.val<(Amb.len 0:Int))&&Nat.beq 2 2) (.br (G_impl_newGeodesic ⟨x.x2,x.x3,x.x4⟩ ⟨(Amb.el 0 c7.val).1,(Amb.el 0 c7.val).2⟩ ⟨(Amb.el 0 x.x1.val).1,(Amb.el 0 x.x1.val).2⟩) (let c8:=F_impl_newGeodesic ⟨x.x2,x.x3,x.x4⟩ ⟨(Amb.el 0 c7.val).1,(Amb.el 0 c7.val).2⟩ ⟨(Amb.el 0 x.x1.val).1,(Amb.el 0 x.x1.val).2⟩;.br (zfB c8 x.x0) (let c10:=zL ⟨x.x7,x.x8⟩ (F_impl_geodesic_size c8 x.x0);.leaf (.again ⟨x.x0,(Rng.w .i64 (x.x1.val+1)),x.x2,x.x3,x.x4,x.x5,x.x6,c10.lo,c10.hi⟩)) (.bad)) (.bad)) (.bad)) (.bad)) (.bad)) (.bad)) (.leaf (.out ⟨x.x0,x.x1,x.x2,x.x3,x.x4,x.x5,x.x6,x.x7,x.x8⟩))
def G_impl_PathLength_7 (x:zbM):Bool:=(Lf zdu 100 x).opt.isSome
def L_impl_PathLength_7 (x:zbM):zbM:=(Lf zdu 100 x).get
def TbL_impl_PathLength_7:Tb Tryz.prog:= {T:= [Y24,Y30,Y57,Y101],mix:=mix,Es:= [zca,E_impl_newGeodesic,E_impl_geodesic_size],Bs:= [],d:=1}
def P_impl_PathLength_7:LpF:=loopF [1,2,3,6,8,9] [0,1,2] 3 rd_impl_PathLength_7 st_impl_PathLength_7 (.exit 1) G_impl_PathLength_7 L_impl_PathLength_7
theorem lok_impl_PathLength_7:LoopOk Tryz.prog (loopAt (Tryz.f66.body.getD .skip) 0) P_impl_PathLength_7:=zfw (t:=TbL_impl_PathLength_7) (lt:=fun _=>none) (body:=zdu) (n:=100) (by intro h;cases h) (fun _ _ _ h=>by cases h)
 (by intro s x h;unfold rd_impl_PathLength_7 at h;split at h<;>cases h;rfl) (fun x b cs h=>lk_lt (l:=(st_impl_PathLength_7 x).mm.blks) (by kernel_rfl) h) (by intro x;kernel_rfl) (fun x h=>Tr.get_some h)
def B177:Bod Tryz.prog:=⟨177,Tryz.f177,Tryz.f177.body.getD .skip,Tryz.func177,by kernel_rfl,by kernel_rfl,zK.no _ _⟩
def B66:Bod Tryz.prog:=⟨66,Tryz.f66,Tryz.f66.body.getD .skip,Tryz.func66,by kernel_rfl,by kernel_rfl,⟨ltOf [(7,P_impl_PathLength_7)],zK.of (ks:= [7]) (by kernel_rfl) (by
 intro i k h f hf
 match i,h with
 | 0,h=>cases h;obtain rfl:P_impl_PathLength_7=f:=Option.some.inj hf;exact lok_impl_PathLength_7
 | n+1,h=>simp at h)⟩⟩
def Tb66:Tb Tryz.prog:= {T:= [Y2,Y24,Y30,Y57,Y101],mix:=mix,Es:= [za7,E_impl_knownI,zbF,za8,E_slices_IndexFunc__impl_Point_impl_Point],Bs:= [B177],d:=8}
def t_impl_PathLength (a0:Ell) (a2:I64):Tr (T2 Iv I64):=
 .br (!(zaU a0)) (.leaf ⟨⟨⟨0,rfl⟩,⟨0,rfl⟩⟩,⟨1,rfl⟩⟩) (.br (zbi) (.br (decide (zbY.val>=0)) (.leaf ⟨⟨⟨0,rfl⟩,⟨0,rfl⟩⟩,⟨1,rfl⟩⟩) (.br (!(zan a2 ⟨1,rfl⟩ ⟨64,rfl⟩)) (.leaf ⟨⟨⟨0,rfl⟩,⟨0,rfl⟩⟩,⟨2,rfl⟩⟩) (.br (decide ((lenA 0).val>24)) (.leaf ⟨⟨⟨0,rfl⟩,⟨0,rfl⟩⟩,⟨2,rfl⟩⟩) (let c5:=zl ⟨0,rfl⟩;.br (G_impl_PathLength_7 ⟨a2,⟨1,rfl⟩,a0.a,a0.num,a0.den,⟨0,rfl⟩,⟨0,rfl⟩,c5.lo,c5.hi⟩) (let c12:=L_impl_PathLength_7 ⟨a2,⟨1,rfl⟩,a0.a,a0.num,a0.den,⟨0,rfl⟩,⟨0,rfl⟩,c5.lo,c5.hi⟩;let c13:=F_impl_knownI ⟨c12.x7,c12.x8⟩;.leaf ⟨c13.a,c13.b⟩) (.bad))))) (.bad))
theorem r_impl_PathLength (a0:Ell) (a2:I64):Tb66.run B66 [enc a0,.arg 0,enc a2] (T2 Iv I64)=(t_impl_PathLength a0 a2).opt:=by kernel_rfl
end
end Go.Proofs.YtkenfaengphiiaaGreat.Ev
namespace Go.Proofs.YtkenfaengphiiaaGreat.Ev
open Go
variable [Amb]
def ptA (j:Nat):zbN:=⟨(Amb.el 0 (j:Int)).1,(Amb.el 0 (j:Int)).2⟩
def okUp:Nat->Nat->Bool
 | 0,_=>true
 | n+1,i=>zbb (ptA i)&&okUp n (i+1)
theorem okUp_all:∀(n i:Nat),okUp n i=true->∀j,i<=j->j<i+n->zbb (ptA j)=true
 | 0,i,_,j,h1,h2=>absurd h2 (by omega)
 | n+1,i,h,j,h1,h2=>by
  simp only [okUp,Bool.and_eq_true] at h
  rcases Nat.eq_or_lt_of_le h1 with e|e
  ·subst e;exact h.1
  ·exact okUp_all n (i+1) h.2 j (by omega) (by omega)
theorem w_of {x:I64} {i:Nat} (h:x.val=(i:Int)) (hb:i<9000000000000000000):(Rng.w .i64 (x.val+1)).val=((i+1:Nat):Int):=by
 rw [h]
 have:(Rng.w .i64 ((i:Int)+1)).val=(i:Int)+1:=zfu (by simp only [inB,Bool.and_eq_true,decide_eq_true_eq];omega)
 rw [this];omega
theorem g_in {x:I64} {i:Nat} (h:x.val=(i:Int)) (hi:i<Amb.len 0):(decide (0<=x.val)&&decide (x.val<(Amb.len 0:Int))&&Nat.beq 2 2)=true:=by
 rw [h]
 simp only [Bool.and_eq_true,decide_eq_true_eq]
 exact ⟨⟨by omega,by omega⟩,rfl⟩
theorem lenA_val:(lenA 0).val=(Amb.len 0:Int):=rfl
theorem loop3:∀(n i f:Nat) (x:zbL),x.x2.val=(i:Int)->i+n=Amb.len 0->n<f->i<9000000000000000000-n->
  ∃y,(Lf zcG f x).opt=some y/\y.x1=(x.x1&&okUp n i)/\y.x0=x.x0/\y.x3=x.x3/\y.x4=x.x4/\y.x5=x.x5/\y.x6=x.x6/\y.x7=x.x7
 | n,i,0,x,hi,hn,hf,hb=>absurd hf (by omega)
 | 0,i,f+1,x,hi,hn,hf,hb=>by
  have c:decide (x.x2.val<(lenA 0).val)=false:=decide_eq_false (by rw [lenA_val,hi];omega)
  refine ⟨x,?_,by simp [okUp],rfl,rfl,rfl,rfl,rfl,rfl⟩
  simp only [Lf,zcG,Tr.bind,Tr.opt,c,cond_false]
 | n+1,i,f+1,x,hi,hn,hf,hb=>by
  have c:decide (x.x2.val<(lenA 0).val)=true:=decide_eq_true (by rw [lenA_val,hi];omega)
  have g:=g_in hi (by omega)
  have w:=w_of hi (by omega)
  have hp:(⟨(Amb.el 0 x.x2.val).1,(Amb.el 0 x.x2.val).2⟩:zbN)=ptA i:=by rw [hi];rfl
  cases hx:x.x1
  ·obtain ⟨y,h1,h2,h3⟩:=loop3 n (i+1) f ⟨x.x0,false,Rng.w .i64 (x.x2.val+1),x.x3,x.x4,x.x5,x.x6,x.x7⟩ w (by omega) (by omega) (by omega)
   refine ⟨y,?_,by rw [h2];simp,h3⟩
   simp only [Lf,zcG,Tr.bind,Tr.opt,c,hx,cond_true,cond_false]
   exact h1
  ·obtain ⟨y,h1,h2,h3⟩:=loop3 n (i+1) f ⟨x.x0,zbb (ptA i),Rng.w .i64 (x.x2.val+1),x.x3,x.x4,x.x5,x.x6,x.x7⟩ w (by omega) (by omega) (by omega)
   refine ⟨y,?_,by rw [h2];simp [okUp],h3⟩
   simp only [Lf,zcG,Tr.bind,Tr.opt,c,hx,g,hp,cond_true,cond_false]
   exact h1
theorem loop2:∀(n i f:Nat) (x:zac),x.x1.val=(Amb.len 0:Int)->x.x2.val=(i:Int)->i+n=Amb.len 0->n<f->i<9000000000000000000-n->
  ∃y,(Lf2 zaw f x).opt=some y/\y.b= !okUp n i/\(y.b=true->0<=y.s.x0.val)
 | n,i,0,x,hl,hi,hn,hf,hb=>absurd hf (by omega)
 | 0,i,f+1,x,hl,hi,hn,hf,hb=>by
  have c:decide (x.x2.val<x.x1.val)=false:=decide_eq_false (by rw [hl,hi];omega)
  refine ⟨⟨false,⟨x.x0,x.x1,x.x2⟩⟩,?_,rfl,fun h=>by cases h⟩
  simp only [Lf2,zaw,Tr.bind,Tr.opt,c,cond_false]
 | n+1,i,f+1,x,hl,hi,hn,hf,hb=>by
  have c:decide (x.x2.val<x.x1.val)=true:=decide_eq_true (by rw [hl,hi];omega)
  have g:=g_in hi (by omega)
  have w:=w_of hi (by omega)
  have hp:(⟨(Amb.el 0 x.x2.val).1,(Amb.el 0 x.x2.val).2⟩:zbN)=ptA i:=by rw [hi];rfl
  cases hv:zbb (ptA i)
  ·refine ⟨⟨true,⟨x.x2,x.x1,x.x2⟩⟩,?_,by simp [okUp,hv],fun _=>by show 0<=x.x2.val;omega⟩
   simp only [Lf2,zaw,Tr.bind,Tr.opt,c,g,hp,point_eq,hv,Bool.not_false,cond_true,cond_false]
  ·obtain ⟨y,h1,h2,h3⟩:=loop2 n (i+1) f ⟨x.x0,x.x1,Rng.w .i64 (x.x2.val+1)⟩ hl w (by omega) (by omega) (by omega)
   refine ⟨y,?_,by rw [h2];simp [okUp,hv],h3⟩
   simp only [Lf2,zaw,Tr.bind,Tr.opt,c,g,hp,point_eq,hv,Bool.not_true,cond_true,cond_false]
   exact h1
theorem index_ok (hN:Amb.len 0<=1048576):∃r,zaX.opt=some r/\decide (r.val>=0)= !okUp (Amb.len 0) 0:=by
 obtain ⟨y,h1,h2,h3⟩:=loop2 (Amb.len 0) 0 1048580 ⟨⟨0,rfl⟩,lenA 0,⟨0,rfl⟩⟩ rfl rfl (by omega) (by omega) (by omega)
 have hG:zbd ⟨⟨0,rfl⟩,lenA 0,⟨0,rfl⟩⟩=true:=by unfold zbd;rw [h1];rfl
 have hL:zbP ⟨⟨0,rfl⟩,lenA 0,⟨0,rfl⟩⟩=y:=Tr.zae h1
 simp only [zaX,Tr.opt,hG,hL,cond_true]
 cases hb:y.b
 ·refine ⟨_,rfl,?_⟩
  rw [hb] at h2
  rw [<- h2]
  decide
 ·refine ⟨_,rfl,?_⟩
  rw [hb] at h2
  rw [<- h2]
  exact decide_eq_true (h3 hb)
theorem newG {e:Ell} {p q:zbN} (he:zbs e=true) (hp:zbb p=true) (hq:zbb q=true):F_impl_newGeodesic e p q=mkG e p q/\G_impl_newGeodesic e p q=true:=by
 refine ⟨?_,?_⟩
 ·simp only [F_impl_newGeodesic,ze0,Tr.get,ell_eq,he,areV_eq,hp,hq,Bool.and_self,Bool.not_true,cfl]
  exact geo_make hp hq
 ·simp only [G_impl_newGeodesic,ze0,Tr.opt,ell_eq,he,areV_eq,hp,hq,Bool.and_self,Bool.not_true,cfl]
  rfl
theorem loopS2 (e:Ell) (n:I64) (he:zbs e=true) (hn:1<=n.val/\n.val<=64) (hv:∀j,j<Amb.len 0->zbb (ptA j)=true):
  ∀(f i:Nat) (x:zbx) (z:zbM),x.x0=n->z.x0=n->(⟨x.x2,x.x3,x.x4⟩:Ell)=e->(⟨z.x2,z.x3,z.x4⟩:Ell)=e->x.x1.val=(i:Int)->z.x1.val=(i:Int)->1<=i->Amb.len 0<i+f->0<f->i<9000000000000000000-f->
   x.x7=z.x7->x.x8=z.x8->∃y y',(Lf zdh f x).opt=some y/\(Lf zdu f z).opt=some y'/\y.x7=y'.x7/\y.x8=y'.x8
 | 0,i,x,z,hx,hz,ex,ez,xi,zi,h1,hf,f0,hb,q7,q8=>absurd f0 (by omega)
 | f+1,i,x,z,hx,hz,ex,ez,xi,zi,h1,hf,f0,hb,q7,q8=>by
  by_cases hi:i<Amb.len 0
  ·have c:decide (x.x1.val<(lenA 0).val)=true:=decide_eq_true (by rw [lenA_val,xi];omega)
   have c':decide (z.x1.val<(lenA 0).val)=true:=decide_eq_true (by rw [lenA_val,zi];omega)
   have p1:(Rng.w .i64 (x.x1.val-1)).val=((i-1:Nat):Int):=by
    rw [xi]
    have:(Rng.w .i64 ((i:Int)-1)).val=(i:Int)-1:=zfu (by simp only [inB,Bool.and_eq_true,decide_eq_true_eq];omega)
    rw [this];omega
   have p2:(Rng.w .i64 (z.x1.val-1)).val=((i-1:Nat):Int):=by
    rw [zi]
    have:(Rng.w .i64 ((i:Int)-1)).val=(i:Int)-1:=zfu (by simp only [inB,Bool.and_eq_true,decide_eq_true_eq];omega)
    rw [this];omega
   have g:=g_in xi hi
   have g':=g_in zi hi
   have k:=g_in p1 (show i-1<Amb.len 0 by omega)
   have k':=g_in p2 (show i-1<Amb.len 0 by omega)
   have w:=w_of xi (by omega)
   have w':=w_of zi (by omega)
   have a1:(⟨(Amb.el 0 x.x1.val).1,(Amb.el 0 x.x1.val).2⟩:zbN)=ptA i:=by rw [xi];rfl
   have a2:(⟨(Amb.el 0 z.x1.val).1,(Amb.el 0 z.x1.val).2⟩:zbN)=ptA i:=by rw [zi];rfl
   have b1:(⟨(Amb.el 0 (Rng.w .i64 (x.x1.val-1)).val).1,(Amb.el 0 (Rng.w .i64 (x.x1.val-1)).val).2⟩:zbN)=ptA (i-1):=by rw [p1];rfl
   have b2:(⟨(Amb.el 0 (Rng.w .i64 (z.x1.val-1)).val).1,(Amb.el 0 (Rng.w .i64 (z.x1.val-1)).val).2⟩:zbN)=ptA (i-1):=by rw [p2];rfl
   have d2:(Amb.el 0 z.x1.val).2=(ptA i).lon:=by rw [zi];rfl
   have d1:(Amb.el 0 (Rng.w .i64 (z.x1.val-1)).val).2=(ptA (i-1)).lon:=by rw [p2];rfl
   have vi:=hv i hi
   have vj:=hv (i-1) (by omega)
   obtain ⟨y,y',r1,r2,r3⟩:=loopS2 e n he hn hv f (i+1)
    ⟨x.x0,Rng.w .i64 (x.x1.val+1),x.x2,x.x3,x.x4,x.x5,x.x6,(zk ⟨x.x7,x.x8⟩ (lenQ e (ptA (i-1)) (ptA i) n)).lo,(zk ⟨x.x7,x.x8⟩ (lenQ e (ptA (i-1)) (ptA i) n)).hi⟩
    ⟨z.x0,Rng.w .i64 (z.x1.val+1),z.x2,z.x3,z.x4,z.x5,z.x6,(zk ⟨z.x7,z.x8⟩ (lenQ e (ptA (i-1)) (ptA i) n)).lo,(zk ⟨z.x7,z.x8⟩ (lenQ e (ptA (i-1)) (ptA i) n)).hi⟩
    hx hz ex ez w w' (by omega) (by omega) (by omega) (by omega) (by simp only [q7,q8]) (by simp only [q7,q8])
   refine ⟨y,y',?_,?_,r3⟩
   ·simp only [Lf,zdh,Tr.bind,Tr.opt,c,g,k,a1,b1,ex,hx,make16 vj vi,len_G_spec _ _ _ hn,len_F_spec _ _ _ hn,cond_true,cond_false]
    rw [<- r1]
    simp only [hx]
   ·simp only [Lf,zdu,Tr.bind,Tr.opt,c',g',k',a2,b2,ez,hz,(newG he vj vi).1,(newG he vj vi).2,len_G_impl _ _ _ hn,len_F_impl _ _ _ hn,add_eq,cond_true,cond_false]
    rw [<- r2]
    simp only [hz]
  ·have c:decide (x.x1.val<(lenA 0).val)=false:=decide_eq_false (by rw [lenA_val,xi];omega)
   have c':decide (z.x1.val<(lenA 0).val)=false:=decide_eq_false (by rw [lenA_val,zi];omega)
   refine ⟨x,z,?_,?_,q7,q8⟩
   ·simp only [Lf,zdh,Tr.bind,Tr.opt,c,cond_false]
   ·simp only [Lf,zdu,Tr.bind,Tr.opt,c',cond_false]
theorem path_one (hN:Amb.len 0<=1048576) (e:Ell) (n:I64):∃r,(zeo e n).opt=some r/\(t_impl_PathLength e n).opt=some r:=by
 obtain ⟨y,h1,h2,h3,h4,h5,h6,h7,h8⟩:=loop3 (Amb.len 0) 0 1048580 ⟨n,zbs e,⟨0,rfl⟩,e.a,e.num,e.den,⟨0,rfl⟩,⟨0,rfl⟩⟩ rfl (by omega) (by omega) (by omega)
 have hG:G_spec_PathLength_3 ⟨n,zbs e,⟨0,rfl⟩,e.a,e.num,e.den,⟨0,rfl⟩,⟨0,rfl⟩⟩=true:=by unfold G_spec_PathLength_3;rw [h1];rfl
 have hL:L_spec_PathLength_3 ⟨n,zbs e,⟨0,rfl⟩,e.a,e.num,e.den,⟨0,rfl⟩,⟨0,rfl⟩⟩=y:=Tr.zae h1
 simp only at h2 h3 h4 h5 h6 h7 h8
 obtain ⟨r,i1,i2⟩:=index_ok hN
 have iG:zbi=true:=by unfold zbi;rw [i1];rfl
 have iF:zbY=r:=Tr.zae i1
 simp only [zeo,t_impl_PathLength,Tr.opt,hG,hL,iG,iF,i2,ell_eq,h2,h3,h4,h5,h6,h7,h8,zb0,zft,cond_true,zbH,known_F]
 cases he:zbs e
 ·exact ⟨_,rfl,rfl⟩
 cases hv:okUp (Amb.len 0) 0
 ·exact ⟨_,rfl,rfl⟩
 cases hn:decide (((⟨1,rfl⟩:I64).val<=n.val/\n.val<=(⟨64,rfl⟩:I64).val))
 ·exact ⟨_,rfl,rfl⟩
 cases hl:decide ((lenA 0).val>24)
 ·have hn':1<=n.val/\n.val<=64:=by simpa using hn
  have hl':Amb.len 0<=24:=by
   have:=of_decide_eq_false hl
   rw [lenA_val] at this
   omega
  obtain ⟨u,u',r1,r2,r3,r4⟩:=loopS2 e n he hn' (fun j hj=>okUp_all _ 0 hv j (by omega) (by omega)) 100 1
   ⟨n,⟨1,rfl⟩,e.a,e.num,e.den,⟨0,rfl⟩,⟨0,rfl⟩,(zb ⟨0,rfl⟩).lo,(zb ⟨0,rfl⟩).hi⟩
   ⟨n,⟨1,rfl⟩,e.a,e.num,e.den,⟨0,rfl⟩,⟨0,rfl⟩,(zb ⟨0,rfl⟩).lo,(zb ⟨0,rfl⟩).hi⟩ rfl rfl rfl rfl rfl rfl (by omega) (by omega) (by omega) (by omega) rfl rfl
  have g1:zfy ⟨n,⟨1,rfl⟩,e.a,e.num,e.den,⟨0,rfl⟩,⟨0,rfl⟩,(zb ⟨0,rfl⟩).lo,(zb ⟨0,rfl⟩).hi⟩=true:=by unfold zfy;rw [r1];rfl
  have g2:G_impl_PathLength_7 ⟨n,⟨1,rfl⟩,e.a,e.num,e.den,⟨0,rfl⟩,⟨0,rfl⟩,(zb ⟨0,rfl⟩).lo,(zb ⟨0,rfl⟩).hi⟩=true:=by unfold G_impl_PathLength_7;rw [r2];rfl
  have f1:L_spec_PathLength_12 ⟨n,⟨1,rfl⟩,e.a,e.num,e.den,⟨0,rfl⟩,⟨0,rfl⟩,(zb ⟨0,rfl⟩).lo,(zb ⟨0,rfl⟩).hi⟩=u:=Tr.zae r1
  have f2:L_impl_PathLength_7 ⟨n,⟨1,rfl⟩,e.a,e.num,e.den,⟨0,rfl⟩,⟨0,rfl⟩,(zb ⟨0,rfl⟩).lo,(zb ⟨0,rfl⟩).hi⟩=u':=Tr.zae r2
  simp only [g1,g2,f1,f2,r3,r4,Bool.and_self,Bool.not_true,Bool.not_false,cond_true,cond_false]
  exact ⟨_,rfl,rfl⟩
 ·exact ⟨_,rfl,rfl⟩
end Go.Proofs.YtkenfaengphiiaaGreat.Ev
