/- The law FnOmega gives true, whatever comes in; each argument reads behind the call as it read before. No conditions. (One of the texts of its proof, put together by a program of this session.) -/
import Derived.Test.YtaoakfodkoifoaaGreatZEC
import Derived.Test.YtaoakfodkoifoaaGreatZWI
import Derived.Test.YtaoakfodkoifoaaGreatZPZ
set_option linter.unusedSectionVars false
set_option linter.unusedSimpArgs false
set_option linter.unusedVariables false
noncomputable section
namespace Go.Proofs.YtaoakfodkoifoaaGreat.Ev
open Go Go.RowKit
variable [Amb]
def isAF:List V->Nat->Nat->Bool
 | [.arg k',.fn f' []],k,f=>Nat.beq k' k&&Nat.beq f' f
 | _,_,_=>false
theorem zMj {vs:List V} {k f:Nat} (h:isAF vs k f=true):vs= [.arg k,.fn f []]:=by
 unfold isAF at h
 split at h
 ·simp only [Bool.and_eq_true] at h
  rw [Nat.eq_of_beq_eq_true h.1,Nat.eq_of_beq_eq_true h.2]
 ·cases h
def Ent.exactAF {P:Program} (t:Tb P) (b:Bod P) (k f:Nat) {γ:Type} [Enc γ] (G:Bool) (y:γ) (h:G=true->t.run b [.arg k,.fn f []] γ=some y):Ent P where
 id:=b.id
 g:=fun vs _=>isAF vs k f&&G
 fn:=fun vs _=>bif isAF vs k f then some (enc y) else none
 ok:=fun vs m v hg hf w0 ρ xs w hv hm=>by
  simp only [Bool.and_eq_true] at hg
  obtain ⟨h1,h2⟩:=hg
  simp only [h1,cond_true,Option.some.injEq] at hf
  subst hf
  obtain rfl:=zMj h1
  exact Tb.run_does (h h2) hv rfl hm.amb
def ptrK (γ:Type) [Enc γ] (v:V) (m:Mem):Option γ:=match v with
 | .tup [.ptr b o,.i64 c]=>bif Nat.beq o 0&&(Nat.ble m.lo b&&c.val==0) then match lk m.blks b with
   | some cs=>dec (.agg cs)
   | none=>none
  else none
 | _=>none
def Tb.runP {P:Program} (t:Tb P) (b:Bod P) (vs:List V) (γ:Type) [Enc γ]:Option γ:=
 runk t.T (zoH t.T (fun _=>t.drw) t.Es t.Bs t.N t.d) t.drw t.N b vs ⟨[],0,0⟩ (ptrK γ)
theorem Tb.runP_sound {P:Program} {t:Tb P} {b:Bod P} {vs:List V} {γ:Type} [Enc γ] {y:γ} (h:t.runP b vs γ=some y) {ρ:Nat->Option Nat} {xs:List Value} {w:World}
  (hv:VRs ρ vs xs) (hp:V.pfs vs=true) (ha:Am w):
  Calls P b.id xs.toArray w fun e w'=>∃r ys ty,e= .returned (.tuple #[.pointer (some ⟨r,0,none⟩),.int .i64 0])/\w.heap.size<=r/\w'.heap[r]?=some (.cells ys.toArray ty (0,0))/\(∀ρ,VRs ρ (enc y).cells ys)/\Below w.heap.size w w':=by
 refine (zp3 (w0:=w) (zh7 (fun _ _=>t.zdO w) t.d) (t.zdO w) h (ρ:=fun _=>none) (hv.pf hp) (MRel.empty ha)).mono fun e w' he=>?_
 obtain ⟨v,m',ρ',x,rfl,h1,h2,h3,h4⟩:=he
 unfold ptrK at h4
 split at h4<;>try (cases h4;done)
 rename_i b o c
 cases hb:(Nat.beq o 0&&(Nat.ble m'.lo b&&c.val==0)) with
 | false=>simp [hb] at h4
 | true=>
  simp only [hb,cond_true] at h4
  simp only [Bool.and_eq_true] at hb
  obtain ⟨ho,hlo,hc0⟩:=hb
  obtain rfl:=Nat.eq_of_beq_eq_true ho
  have hc0:c.val=0:=by simpa using hc0
  split at h4<;>try (cases h4;done)
  rename_i cs hcs
  have e1:=Enc.dec_enc _ _ h4
  have hpf:=Enc.pf y
  rw [<- e1] at hpf
  cases h2 with
  | tup h2=>
   cases h2 with
   | cons q1 q2=>
    cases q2 with
    | cons q2 q3=>
     cases q3
     cases q1
     cases q2
     rename_i r hr
     obtain ⟨r',ys,ty,k1,k2,k3⟩:=h3.blk b cs hcs
     rw [hr] at k1;cases k1
     refine ⟨r,ys,ty,by rw [hc0],h3.own b r (Nat.le_of_ble_eq_true hlo) hr,k2,fun ρ=>?_,h3.bel⟩
     rw [show (enc y)=V.agg cs from e1.symm]
     exact VRs.pf (vs:=cs) k3 (by simpa [V.pf] using hpf)
def Ent.mkp3 {P:Program} {α β δ γ:Type} [Enc α] [Enc β] [Enc δ] [Enc γ] (t:Tb P) (b:Bod P) (G:α->β->δ->Bool) (F:α->β->δ->γ)
  (h:∀x y z,G x y z=true->t.runP b [enc x,enc y,enc z] γ=some (F x y z)):Ent P where
 id:=b.id
 g:=fun _ _=>false
 fn:=fun _ _=>none
 ok:=fun vs m v hg hf w0 ρ xs w hv hm=>by cases hg
 mkp:=fun vs=>match vs with
  | [x,y,z]=>match (dec x:Option α),(dec y:Option β),(dec z:Option δ) with
   | some x,some y,some z=>some (G x y z,(enc (F x y z)).cells)
   | _,_,_=>none
  | _=>none
 mkpok:=fun vs cs hf w0 ρ m xs w hv hm=>by
  split at hf<;>try (cases hf;done)
  split at hf<;>try (cases hf;done)
  rename_i x y z hx hy hz
  simp only [Option.some.injEq,Prod.mk.injEq] at hf
  obtain ⟨hg,rfl⟩:=hf
  have e1:=Enc.dec_enc _ _ hx
  have e2:=Enc.dec_enc _ _ hy
  have e3:=Enc.dec_enc _ _ hz
  subst e1;subst e2;subst e3
  intro o a next Q hn
  rw [zfv,Oper.upon_enter]
  refine (Tb.runP_sound (h x y z hg) hv (by simp [V.pfs,Enc.pf]) hm.amb).mono fun e w' he=>?_
  obtain ⟨r,ys,ty,rfl,k1,k2,k3,k4⟩:=he
  exact hn _ w' ⟨r,ys,ty,rfl,k1,k2,k3,k4⟩
end Go.Proofs.YtaoakfodkoifoaaGreat.Ev
namespace Go.Proofs.YtaoakfodkoifoaaGreat.Ev
open Go Go.RowKit
set_option maxRecDepth 100000
section
variable [Amb]
def Y44:TyE Tryz.prog:=⟨44,1,(.slice 28 2),[.nils],false,by kernel_rfl,by kernel_rfl,by kernel_rfl,by kernel_rfl,by kernel_rfl,by kernel_rfl⟩
def B75:Bod Tryz.prog:=⟨75,Tryz.f75,Tryz.f75.body.getD .skip,Tryz.func75,by kernel_rfl,by kernel_rfl,zar.no _ _⟩
structure zam where
 x0:I64
 x1:I64
 x2:I64
instance:Inhabited zam:=⟨⟨default,default,default⟩⟩
def zdc (x:zam):St:=⟨[(0,.arg 0),(1,.fn 75 []),(4,.i64 x.x0),(7,.i64 x.x1),(8,.i64 x.x2)],19,⟨[],0,0⟩⟩
def zdd:St->Option zam:=fun s=>match s with
 | ⟨[(0,.arg 0),(1,.fn 75 []),(4,.i64 x0),(7,.i64 x1),(8,.i64 x2)],19,⟨[],0,0⟩⟩=>some ⟨x0,x1,x2⟩
 | _=>none
def zaF (x:zam):Tr (Lp2 zam):=
 .br (decide (x.x2.val<x.x1.val)) (.br (decide (0<=x.x2.val)&&decide (x.x2.val<(Amb.pl 0:Int))&&Nat.beq 2 2) (.br (decide (0<=x.x2.val)&&decide (x.x2.val<(Amb.pl 0:Int))&&Nat.beq 2 2) (.br (!(zc9 ⟨(Amb.el 0 x.x2.val).1,(Amb.el 0 x.x2.val).2⟩)) (.leaf (.out ⟨x.x2,x.x1,x.x2⟩)) (.leaf (.again ⟨x.x0,x.x1,(Rng.w .i64 (x.x2.val+1))⟩))) (.bad)) (.bad)) (.leaf (.alt ⟨x.x0,x.x1,x.x2⟩))
def zbr (x:zam):Bool:=(Lf2 zaF 1048580 x).opt.isSome
def zb1 (x:zam):Tw zam:=(Lf2 zaF 1048580 x).get
def zfS:Tb Tryz.prog:= {T:= [Y28,Y44],mix:=mix,Es:= [zkO],Bs:= [B75],d:=8}
def zb0:LpF:=zHt [0,1,4,7,8] [] 0 zdd zdc .ret (.exit 0) zbr zb1
theorem zfQ:zkp Tryz.prog (zo2 (Tryz.f141.body.getD .skip) 0) zb0:=zHs (t:=zfS) (lt:=fun _=>none) (body:=zaF) (n:=1048580) (by intro h;cases h) (by intro h;cases h) (fun _ _ _ h=>by cases h)
 (by intro s x h;unfold zdd at h;split at h<;>cases h;rfl) (fun x b cs h=>zvP (l:=(zdc x).mm.blks) (by kernel_rfl) h) (by intro x;kernel_rfl) (fun x h=>Tr.get_some h)
def B141:Bod Tryz.prog:=⟨141,Tryz.f141,Tryz.f141.body.getD .skip,Tryz.func141,by kernel_rfl,by kernel_rfl,⟨ltOf [(2,zb0)],zar.of (ks:= [2]) (by kernel_rfl) (by
 intro i k h f hf
 match i,h with
 | 0,h=>cases h;obtain rfl:zb0=f:=Option.some.inj hf;exact zfQ
 | n+1,h=>simp at h)⟩⟩
def zPO:Tb Tryz.prog:= {T:= [Y28,Y44],mix:=mix,Es:= [],Bs:= [],d:=1}
def za7:Tr (I64):=
 .br (zbr ⟨⟨0,rfl⟩,(lenA 0),⟨0,rfl⟩⟩) (let c4:=zb1 ⟨⟨0,rfl⟩,(lenA 0),⟨0,rfl⟩⟩;.br c4.b (.leaf c4.s.x0) (.leaf ⟨(-1),rfl⟩)) (.bad)
theorem zgY:zPO.run B141 [.arg 0,.fn 75 []] (I64)=(za7).opt:=by kernel_rfl
def zcb:I64:=za7.get
def zby:Bool:=za7.opt.isSome
def zgZ:Ent Tryz.prog:= .exactAF zPO B141 0 75 zby zcb fun h=>zgY.trans (Tr.get_some h)
def Tb55:Tb Tryz.prog:= {T:= [Y2,Y4,Y25,Y28,Y32,Y115],mix:=mix,Es:= [za5,zhL,ziO,zgI,zlz,zkP,zeH],Bs:= [],d:=1}
def zfb (a0:Ell) (a1:zaA) (a2:zaA):Tr (Geo):=
 .br (!(zaI a0)) (.bad) (.br (!(zdk a1 a2)) (.bad) (let c4:=zcN (Rng.w .i64 (a2.lon.val-a1.lon.val));.leaf ⟨a0,(zbg ⟨1,rfl⟩ a0 (zb9 a1)),(zbg ⟨1,rfl⟩ a0 (zb9 a2)),(zcY (zcp c4)),(decide (c4.val<0))⟩))
theorem zrC (a0:Ell) (a1:zaA) (a2:zaA):Tb55.runP B55 [enc a0,enc a1,enc a2] (Geo)=(zfb a0 a1 a2).opt:=by kernel_rfl
def zha:Ell->zaA->zaA->Geo:=fun a0 a1 a2=>(zfb a0 a1 a2).get
def zg8:Ell->zaA->zaA->Bool:=fun a0 a1 a2=>(zfb a0 a1 a2).opt.isSome
def zsc:Ent Tryz.prog:= .mkp3 Tb55 B55 zg8 zha fun a0 a1 a2 h=>(zrC a0 a1 a2).trans (Tr.get_some h)
structure zcf where
 x0:I64
 x1:Bool
 x2:I64
 x3:I64
 x4:I64
 x5:I64
 x6:I64
 x7:I64
instance:Inhabited zcf:=⟨⟨default,default,default,default,default,default,default,default⟩⟩
def zB3:St->Option zcf:=fun s=>match s with
 | ⟨[(1,.arg 0),(2,.i64 x0),(3,.ptr 0 0),(6,.ptr 1 0),(8,.bool x1),(9,.i64 x2)],67,⟨[(0,[.i64 x3,.i64 x4,.i64 x5]),(1,[.i64 x6,.i64 x7])],2,0⟩⟩=>some ⟨x0,x1,x2,x3,x4,x5,x6,x7⟩
 | _=>none
def zdz (x:zcf):Tr (Lp zcf):=
 .br (decide (x.x2.val<(lenA 0).val)) (.br x.x1 (.br (decide (0<=x.x2.val)&&decide (x.x2.val<(Amb.pl 0:Int))&&Nat.beq 2 2) (.br (decide (0<=x.x2.val)&&decide (x.x2.val<(Amb.pl 0:Int))&&Nat.beq 2 2) (.leaf (.again ⟨x.x0,(zT ⟨(Amb.el 0 x.x2.val).1,(Amb.el 0 x.x2.val).2⟩),(Rng.w .i64 (x.x2.val+1)),x.x3,x.x4,x.x5,x.x6,x.x7⟩)) (.bad)) (.bad)) (.leaf (.again ⟨x.x0,false,(Rng.w .i64 (x.x2.val+1)),x.x3,x.x4,x.x5,x.x6,x.x7⟩))) (.leaf (.out ⟨x.x0,x.x1,x.x2,x.x3,x.x4,x.x5,x.x6,x.x7⟩))
def zeO (x:zcf):Bool:=(Lf zdz 1048580 x).opt.isSome
def zjc (x:zcf):zcf:=(Lf zdz 1048580 x).get
structure zcA where
 x0:I64
 x1:I64
 x2:I64
 x3:I64
 x4:I64
 x5:I64
 x6:I64
 x7:I64
 x8:I64
instance:Inhabited zcA:=⟨⟨default,default,default,default,default,default,default,default,default⟩⟩
def zcz (x:zcA):Tr (Lp zcA):=
 .br (decide (x.x1.val<(lenA 0).val)) (let c11:=(Rng.w .i64 (x.x1.val-1));.br (decide (0<=c11.val)&&decide (c11.val<(Amb.pl 0:Int))&&Nat.beq 2 2) (.br (decide (0<=c11.val)&&decide (c11.val<(Amb.pl 0:Int))&&Nat.beq 2 2) (.br (decide (0<=x.x1.val)&&decide (x.x1.val<(Amb.pl 0:Int))&&Nat.beq 2 2) (.br (decide (0<=x.x1.val)&&decide (x.x1.val<(Amb.pl 0:Int))&&Nat.beq 2 2) (let c12:=znJ ⟨x.x2,x.x3,x.x4⟩ ⟨(Amb.el 0 c11.val).1,(Amb.el 0 c11.val).2⟩ ⟨(Amb.el 0 x.x1.val).1,(Amb.el 0 x.x1.val).2⟩;.br (zjX c12 x.x0) (let c14:=zq ⟨x.x7,x.x8⟩ (znr c12 x.x0);.leaf (.again ⟨x.x0,(Rng.w .i64 (x.x1.val+1)),x.x2,x.x3,x.x4,x.x5,x.x6,c14.lo,c14.hi⟩)) (.bad)) (.bad)) (.bad)) (.bad)) (.bad)) (.leaf (.out ⟨x.x0,x.x1,x.x2,x.x3,x.x4,x.x5,x.x6,x.x7,x.x8⟩))
def zeb (x:zcA):Bool:=(Lf zcz 100 x).opt.isSome
def ziu (x:zcA):zcA:=(Lf zcz 100 x).get
def zhR (a0:Ell) (a2:I64):Tr (T2 Iv I64):=
 let c1:=zae a0;.br (zeO ⟨a2,c1,⟨0,rfl⟩,a0.a,a0.num,a0.den,⟨0,rfl⟩,⟨0,rfl⟩⟩) (let c6:=zjc ⟨a2,c1,⟨0,rfl⟩,a0.a,a0.num,a0.den,⟨0,rfl⟩,⟨0,rfl⟩⟩;.br (!c6.x1) (.leaf ⟨⟨⟨0,rfl⟩,⟨0,rfl⟩⟩,⟨1,rfl⟩⟩) (.br (!(zaf c6.x0 ⟨1,rfl⟩ ⟨64,rfl⟩)) (.leaf ⟨⟨⟨0,rfl⟩,⟨0,rfl⟩⟩,⟨2,rfl⟩⟩) (.br (decide ((lenA 0).val>24)) (.leaf ⟨⟨⟨0,rfl⟩,⟨0,rfl⟩⟩,⟨2,rfl⟩⟩) (let c9:=zf ⟨0,rfl⟩;.br (zeb ⟨c6.x0,⟨1,rfl⟩,c6.x3,c6.x4,c6.x5,c6.x6,c6.x7,c9.lo,c9.hi⟩) (let c16:=ziu ⟨c6.x0,⟨1,rfl⟩,c6.x3,c6.x4,c6.x5,c6.x6,c6.x7,c9.lo,c9.hi⟩;let c17:=zbn ⟨c16.x7,c16.x8⟩;.leaf ⟨c17.a,c17.b⟩) (.bad))))) (.bad)
structure zbZ where
 x0:I64
 x1:I64
 x2:I64
 x3:I64
 x4:I64
 x5:I64
 x6:I64
 x7:I64
 x8:I64
instance:Inhabited zbZ:=⟨⟨default,default,default,default,default,default,default,default,default⟩⟩
def zlK (x:zbZ):St:=⟨[(1,.arg 0),(2,.i64 x.x0),(3,.ptr 0 0),(6,.ptr 1 0),(8,.ptr 2 0),(9,.i64 x.x1)],61,⟨[(0,[.i64 x.x2,.i64 x.x3,.i64 x.x4]),(1,[.i64 x.x5,.i64 x.x6]),(2,[.i64 x.x7,.i64 x.x8])],3,0⟩⟩
def zlL:St->Option zbZ:=fun s=>match s with
 | ⟨[(1,.arg 0),(2,.i64 x0),(3,.ptr 0 0),(6,.ptr 1 0),(8,.ptr 2 0),(9,.i64 x1)],61,⟨[(0,[.i64 x2,.i64 x3,.i64 x4]),(1,[.i64 x5,.i64 x6]),(2,[.i64 x7,.i64 x8])],3,0⟩⟩=>some ⟨x0,x1,x2,x3,x4,x5,x6,x7,x8⟩
 | _=>none
def zdA (x:zbZ):Tr (Lp zbZ):=
 .br (decide (x.x1.val<(lenA 0).val)) (let c7:=(Rng.w .i64 (x.x1.val-1));.br (decide (0<=c7.val)&&decide (c7.val<(Amb.pl 0:Int))&&Nat.beq 2 2) (.br (decide (0<=c7.val)&&decide (c7.val<(Amb.pl 0:Int))&&Nat.beq 2 2) (.br (decide (0<=x.x1.val)&&decide (x.x1.val<(Amb.pl 0:Int))&&Nat.beq 2 2) (.br (decide (0<=x.x1.val)&&decide (x.x1.val<(Amb.pl 0:Int))&&Nat.beq 2 2) (.br (zg8 ⟨x.x2,x.x3,x.x4⟩ ⟨(Amb.el 0 c7.val).1,(Amb.el 0 c7.val).2⟩ ⟨(Amb.el 0 x.x1.val).1,(Amb.el 0 x.x1.val).2⟩) (let c8:=zha ⟨x.x2,x.x3,x.x4⟩ ⟨(Amb.el 0 c7.val).1,(Amb.el 0 c7.val).2⟩ ⟨(Amb.el 0 x.x1.val).1,(Amb.el 0 x.x1.val).2⟩;.br (zec c8 x.x0) (let c10:=zR ⟨x.x7,x.x8⟩ (zfH c8 x.x0);.leaf (.again ⟨x.x0,(Rng.w .i64 (x.x1.val+1)),x.x2,x.x3,x.x4,x.x5,x.x6,c10.lo,c10.hi⟩)) (.bad)) (.bad)) (.bad)) (.bad)) (.bad)) (.bad)) (.leaf (.out ⟨x.x0,x.x1,x.x2,x.x3,x.x4,x.x5,x.x6,x.x7,x.x8⟩))
def zgq (x:zbZ):Bool:=(Lf zdA 100 x).opt.isSome
def zjd (x:zbZ):zbZ:=(Lf zdA 100 x).get
def zpM:Tb Tryz.prog:= {T:= [Y25,Y28,Y32,Y44],mix:=mix,Es:= [zsc,zck,zlN],Bs:= [],d:=1}
def zjb:LpF:=zvO [1,2,3,6,8,9] [0,1,2] 3 zlL zlK (.exit 1) zgq zjd
theorem zpG:zkp Tryz.prog (zo2 (Tryz.f24.body.getD .skip) 0) zjb:=zl4 (t:=zpM) (lt:=fun _=>none) (body:=zdA) (n:=100) (by intro h;cases h) (fun _ _ _ h=>by cases h)
 (by intro s x h;unfold zlL at h;split at h<;>cases h;rfl) (fun x b cs h=>zvP (l:=(zlK x).mm.blks) (by kernel_rfl) h) (by intro x;kernel_rfl) (fun x h=>Tr.get_some h)
def B74:Bod Tryz.prog:=⟨74,Tryz.f74,Tryz.f74.body.getD .skip,Tryz.func74,by kernel_rfl,by kernel_rfl,zar.no _ _⟩
def B24:Bod Tryz.prog:=⟨24,Tryz.f24,Tryz.f24.body.getD .skip,Tryz.func24,by kernel_rfl,by kernel_rfl,⟨ltOf [(7,zjb)],zar.of (ks:= [7]) (by kernel_rfl) (by
 intro i k h f hf
 match i,h with
 | 0,h=>cases h;obtain rfl:zjb=f:=Option.some.inj hf;exact zpG
 | n+1,h=>simp at h)⟩⟩
def Tb24:Tb Tryz.prog:= {T:= [Y2,Y25,Y28,Y32,Y44],mix:=mix,Es:= [zkf,za5,za3,zbi,zgZ],Bs:= [B74],d:=8}
def zfO (a0:Ell) (a2:I64):Tr (T2 Iv I64):=
 .br (!(zaI a0)) (.leaf ⟨⟨⟨0,rfl⟩,⟨0,rfl⟩⟩,⟨1,rfl⟩⟩) (.br (zby) (.br (decide (zcb.val>=0)) (.leaf ⟨⟨⟨0,rfl⟩,⟨0,rfl⟩⟩,⟨1,rfl⟩⟩) (.br (!(zas a2 ⟨1,rfl⟩ ⟨64,rfl⟩)) (.leaf ⟨⟨⟨0,rfl⟩,⟨0,rfl⟩⟩,⟨2,rfl⟩⟩) (.br (decide ((lenA 0).val>24)) (.leaf ⟨⟨⟨0,rfl⟩,⟨0,rfl⟩⟩,⟨2,rfl⟩⟩) (let c5:=zw ⟨0,rfl⟩;.br (zgq ⟨a2,⟨1,rfl⟩,a0.a,a0.num,a0.den,⟨0,rfl⟩,⟨0,rfl⟩,c5.lo,c5.hi⟩) (let c12:=zjd ⟨a2,⟨1,rfl⟩,a0.a,a0.num,a0.den,⟨0,rfl⟩,⟨0,rfl⟩,c5.lo,c5.hi⟩;let c13:=zel ⟨c12.x7,c12.x8⟩;.leaf ⟨c13.a,c13.b⟩) (.bad))))) (.bad))
theorem zsC (a0:Ell) (a2:I64):Tb24.run B24 [enc a0,.arg 0,enc a2] (T2 Iv I64)=(zfO a0 a2).opt:=by kernel_rfl
end
end Go.Proofs.YtaoakfodkoifoaaGreat.Ev
namespace Go.Proofs.YtaoakfodkoifoaaGreat.Ev
open Go
variable [Amb]
def ptA (j:Nat):zaA:=⟨(Amb.el 0 (j:Int)).1,(Amb.el 0 (j:Int)).2⟩
def okUp:Nat->Nat->Bool
 | 0,_=>true
 | n+1,i=>zT (ptA i)&&okUp n (i+1)
theorem zEc:∀(n i:Nat),okUp n i=true->∀j,i<=j->j<i+n->zT (ptA j)=true
 | 0,i,_,j,h1,h2=>absurd h2 (by omega)
 | n+1,i,h,j,h1,h2=>by
  simp only [okUp,Bool.and_eq_true] at h
  rcases Nat.eq_or_lt_of_le h1 with e|e
  ·subst e;exact h.1
  ·exact zEc n (i+1) h.2 j (by omega) (by omega)
theorem w_of {x:I64} {i:Nat} (h:x.val=(i:Int)) (hb:i<9000000000000000000):(Rng.w .i64 (x.val+1)).val=((i+1:Nat):Int):=by
 rw [h]
 have:(Rng.w .i64 ((i:Int)+1)).val=(i:Int)+1:=ze9 (by simp only [inB,Bool.and_eq_true,decide_eq_true_eq];omega)
 rw [this];omega
theorem g_in (hP:Amb.pl 0=Amb.len 0) {x:I64} {i:Nat} (h:x.val=(i:Int)) (hi:i<Amb.len 0):(decide (0<=x.val)&&decide (x.val<(Amb.pl 0:Int))&&Nat.beq 2 2)=true:=by
 rw [h,hP]
 simp only [Bool.and_eq_true,decide_eq_true_eq]
 exact ⟨⟨by omega,by omega⟩,rfl⟩
theorem zoA:(lenA 0).val=(Amb.len 0:Int):=rfl
theorem zJG (hP:Amb.pl 0=Amb.len 0):∀(n i f:Nat) (x:zcf),x.x2.val=(i:Int)->i+n=Amb.len 0->n<f->i<9000000000000000000-n->
  ∃y,(Lf zdz f x).opt=some y/\y.x1=(x.x1&&okUp n i)/\y.x0=x.x0/\y.x3=x.x3/\y.x4=x.x4/\y.x5=x.x5/\y.x6=x.x6/\y.x7=x.x7
 | n,i,0,x,hi,hn,hf,hb=>absurd hf (by omega)
 | 0,i,f+1,x,hi,hn,hf,hb=>by
  have c:decide (x.x2.val<(lenA 0).val)=false:=decide_eq_false (by rw [zoA,hi];omega)
  refine ⟨x,?_,by simp [okUp],rfl,rfl,rfl,rfl,rfl,rfl⟩
  simp only [Lf,zdz,Tr.bind,Tr.opt,c,cond_false]
 | n+1,i,f+1,x,hi,hn,hf,hb=>by
  have c:decide (x.x2.val<(lenA 0).val)=true:=decide_eq_true (by rw [zoA,hi];omega)
  have g:=g_in hP hi (by omega)
  have w:=w_of hi (by omega)
  have hp:(⟨(Amb.el 0 x.x2.val).1,(Amb.el 0 x.x2.val).2⟩:zaA)=ptA i:=by rw [hi];rfl
  cases hx:x.x1
  ·obtain ⟨y,h1,h2,h3⟩:=zJG hP n (i+1) f ⟨x.x0,false,Rng.w .i64 (x.x2.val+1),x.x3,x.x4,x.x5,x.x6,x.x7⟩ w (by omega) (by omega) (by omega)
   refine ⟨y,?_,by rw [h2];simp,h3⟩
   simp only [Lf,zdz,Tr.bind,Tr.opt,c,hx,cond_true,cond_false]
   exact h1
  ·obtain ⟨y,h1,h2,h3⟩:=zJG hP n (i+1) f ⟨x.x0,zT (ptA i),Rng.w .i64 (x.x2.val+1),x.x3,x.x4,x.x5,x.x6,x.x7⟩ w (by omega) (by omega) (by omega)
   refine ⟨y,?_,by rw [h2];simp [okUp],h3⟩
   simp only [Lf,zdz,Tr.bind,Tr.opt,c,hx,g,hp,cond_true,cond_false]
   exact h1
theorem zNL (hP:Amb.pl 0=Amb.len 0):∀(n i f:Nat) (x:zam),x.x1.val=(Amb.len 0:Int)->x.x2.val=(i:Int)->i+n=Amb.len 0->n<f->i<9000000000000000000-n->
  ∃y,(Lf2 zaF f x).opt=some y/\y.b= !okUp n i/\(y.b=true->0<=y.s.x0.val)
 | n,i,0,x,hl,hi,hn,hf,hb=>absurd hf (by omega)
 | 0,i,f+1,x,hl,hi,hn,hf,hb=>by
  have c:decide (x.x2.val<x.x1.val)=false:=decide_eq_false (by rw [hl,hi];omega)
  refine ⟨⟨false,⟨x.x0,x.x1,x.x2⟩⟩,?_,rfl,fun h=>by cases h⟩
  simp only [Lf2,zaF,Tr.bind,Tr.opt,c,cond_false]
 | n+1,i,f+1,x,hl,hi,hn,hf,hb=>by
  have c:decide (x.x2.val<x.x1.val)=true:=decide_eq_true (by rw [hl,hi];omega)
  have g:=g_in hP hi (by omega)
  have w:=w_of hi (by omega)
  have hp:(⟨(Amb.el 0 x.x2.val).1,(Amb.el 0 x.x2.val).2⟩:zaA)=ptA i:=by rw [hi];rfl
  cases hv:zT (ptA i)
  ·refine ⟨⟨true,⟨x.x2,x.x1,x.x2⟩⟩,?_,by simp [okUp,hv],fun _=>by show 0<=x.x2.val;omega⟩
   simp only [Lf2,zaF,Tr.bind,Tr.opt,c,g,hp,zum,hv,Bool.not_false,cond_true,cond_false]
  ·obtain ⟨y,h1,h2,h3⟩:=zNL hP n (i+1) f ⟨x.x0,x.x1,Rng.w .i64 (x.x2.val+1)⟩ hl w (by omega) (by omega) (by omega)
   refine ⟨y,?_,by rw [h2];simp [okUp,hv],h3⟩
   simp only [Lf2,zaF,Tr.bind,Tr.opt,c,g,hp,zum,hv,Bool.not_true,cond_true,cond_false]
   exact h1
theorem zJQ (hP:Amb.pl 0=Amb.len 0) (hN:Amb.len 0<=1048576):∃r,za7.opt=some r/\decide (r.val>=0)= !okUp (Amb.len 0) 0:=by
 obtain ⟨y,h1,h2,h3⟩:=zNL hP (Amb.len 0) 0 1048580 ⟨⟨0,rfl⟩,lenA 0,⟨0,rfl⟩⟩ rfl rfl (by omega) (by omega) (by omega)
 have hG:zbr ⟨⟨0,rfl⟩,lenA 0,⟨0,rfl⟩⟩=true:=by unfold zbr;rw [h1];rfl
 have hL:zb1 ⟨⟨0,rfl⟩,lenA 0,⟨0,rfl⟩⟩=y:=Tr.zai h1
 simp only [za7,Tr.opt,hG,hL,cond_true]
 cases hb:y.b
 ·refine ⟨_,rfl,?_⟩
  rw [hb] at h2
  rw [<- h2]
  decide
 ·refine ⟨_,rfl,?_⟩
  rw [hb] at h2
  rw [<- h2]
  exact decide_eq_true (h3 hb)
theorem newG {e:Ell} {p q:zaA} (he:zae e=true) (hp:zT p=true) (hq:zT q=true):zha e p q=mkG e p q/\zg8 e p q=true:=by
 refine ⟨?_,?_⟩
 ·simp only [zha,zfb,Tr.get,zn4,he,zs1,hp,hq,Bool.and_self,Bool.not_true,cfl]
  exact zrR hp hq
 ·simp only [zg8,zfb,Tr.opt,zn4,he,zs1,hp,hq,Bool.and_self,Bool.not_true,cfl]
  rfl
theorem zKM (hP:Amb.pl 0=Amb.len 0) (e:Ell) (n:I64) (he:zae e=true) (hn:1<=n.val/\n.val<=64) (hv:∀j,j<Amb.len 0->zT (ptA j)=true):
  ∀(f i:Nat) (x:zcA) (z:zbZ),x.x0=n->z.x0=n->(⟨x.x2,x.x3,x.x4⟩:Ell)=e->(⟨z.x2,z.x3,z.x4⟩:Ell)=e->x.x1.val=(i:Int)->z.x1.val=(i:Int)->1<=i->Amb.len 0<i+f->0<f->i<9000000000000000000-f->
   x.x7=z.x7->x.x8=z.x8->∃y y',(Lf zcz f x).opt=some y/\(Lf zdA f z).opt=some y'/\y.x7=y'.x7/\y.x8=y'.x8
 | 0,i,x,z,hx,hz,ex,ez,xi,zi,h1,hf,f0,hb,q7,q8=>absurd f0 (by omega)
 | f+1,i,x,z,hx,hz,ex,ez,xi,zi,h1,hf,f0,hb,q7,q8=>by
  by_cases hi:i<Amb.len 0
  ·have c:decide (x.x1.val<(lenA 0).val)=true:=decide_eq_true (by rw [zoA,xi];omega)
   have c':decide (z.x1.val<(lenA 0).val)=true:=decide_eq_true (by rw [zoA,zi];omega)
   have p1:(Rng.w .i64 (x.x1.val-1)).val=((i-1:Nat):Int):=by
    rw [xi]
    have:(Rng.w .i64 ((i:Int)-1)).val=(i:Int)-1:=ze9 (by simp only [inB,Bool.and_eq_true,decide_eq_true_eq];omega)
    rw [this];omega
   have p2:(Rng.w .i64 (z.x1.val-1)).val=((i-1:Nat):Int):=by
    rw [zi]
    have:(Rng.w .i64 ((i:Int)-1)).val=(i:Int)-1:=ze9 (by simp only [inB,Bool.and_eq_true,decide_eq_true_eq];omega)
    rw [this];omega
   have g:=g_in hP xi hi
   have g':=g_in hP zi hi
   have k:=g_in hP p1 (show i-1<Amb.len 0 by omega)
   have k':=g_in hP p2 (show i-1<Amb.len 0 by omega)
   have w:=w_of xi (by omega)
   have w':=w_of zi (by omega)
   have a1:(⟨(Amb.el 0 x.x1.val).1,(Amb.el 0 x.x1.val).2⟩:zaA)=ptA i:=by rw [xi];rfl
   have a2:(⟨(Amb.el 0 z.x1.val).1,(Amb.el 0 z.x1.val).2⟩:zaA)=ptA i:=by rw [zi];rfl
   have b1:(⟨(Amb.el 0 (Rng.w .i64 (x.x1.val-1)).val).1,(Amb.el 0 (Rng.w .i64 (x.x1.val-1)).val).2⟩:zaA)=ptA (i-1):=by rw [p1];rfl
   have b2:(⟨(Amb.el 0 (Rng.w .i64 (z.x1.val-1)).val).1,(Amb.el 0 (Rng.w .i64 (z.x1.val-1)).val).2⟩:zaA)=ptA (i-1):=by rw [p2];rfl
   have d2:(Amb.el 0 z.x1.val).2=(ptA i).lon:=by rw [zi];rfl
   have d1:(Amb.el 0 (Rng.w .i64 (z.x1.val-1)).val).2=(ptA (i-1)).lon:=by rw [p2];rfl
   have vi:=hv i hi
   have vj:=hv (i-1) (by omega)
   obtain ⟨y,y',r1,r2,r3⟩:=zKM hP e n he hn hv f (i+1)
    ⟨x.x0,Rng.w .i64 (x.x1.val+1),x.x2,x.x3,x.x4,x.x5,x.x6,(zq ⟨x.x7,x.x8⟩ (lenQ e (ptA (i-1)) (ptA i) n)).lo,(zq ⟨x.x7,x.x8⟩ (lenQ e (ptA (i-1)) (ptA i) n)).hi⟩
    ⟨z.x0,Rng.w .i64 (z.x1.val+1),z.x2,z.x3,z.x4,z.x5,z.x6,(zq ⟨z.x7,z.x8⟩ (lenQ e (ptA (i-1)) (ptA i) n)).lo,(zq ⟨z.x7,z.x8⟩ (lenQ e (ptA (i-1)) (ptA i) n)).hi⟩
    hx hz ex ez w w' (by omega) (by omega) (by omega) (by omega) (by simp only [q7,q8]) (by simp only [q7,q8])
   refine ⟨y,y',?_,?_,r3⟩
   ·simp only [Lf,zcz,Tr.bind,Tr.opt,c,g,k,a1,b1,ex,hx,zKL vj vi,zx7 _ _ _ hn,zx9 _ _ _ hn,cond_true,cond_false]
    rw [<- r1]
    simp only [hx]
   ·simp only [Lf,zdA,Tr.bind,Tr.opt,c',g',k',a2,b2,ez,hz,(newG he vj vi).1,(newG he vj vi).2,zx8 _ _ _ hn,zya _ _ _ hn,add_eq,cond_true,cond_false]
    rw [<- r2]
    simp only [hz]
  ·have c:decide (x.x1.val<(lenA 0).val)=false:=decide_eq_false (by rw [zoA,xi];omega)
   have c':decide (z.x1.val<(lenA 0).val)=false:=decide_eq_false (by rw [zoA,zi];omega)
   refine ⟨x,z,?_,?_,q7,q8⟩
   ·simp only [Lf,zcz,Tr.bind,Tr.opt,c,cond_false]
   ·simp only [Lf,zdA,Tr.bind,Tr.opt,c',cond_false]
theorem zD8 (hP:Amb.pl 0=Amb.len 0) (hN:Amb.len 0<=1048576) (e:Ell) (n:I64):∃r,(zhR e n).opt=some r/\(zfO e n).opt=some r:=by
 obtain ⟨y,h1,h2,h3,h4,h5,h6,h7,h8⟩:=zJG hP (Amb.len 0) 0 1048580 ⟨n,zae e,⟨0,rfl⟩,e.a,e.num,e.den,⟨0,rfl⟩,⟨0,rfl⟩⟩ rfl (by omega) (by omega) (by omega)
 have hG:zeO ⟨n,zae e,⟨0,rfl⟩,e.a,e.num,e.den,⟨0,rfl⟩,⟨0,rfl⟩⟩=true:=by unfold zeO;rw [h1];rfl
 have hL:zjc ⟨n,zae e,⟨0,rfl⟩,e.a,e.num,e.den,⟨0,rfl⟩,⟨0,rfl⟩⟩=y:=Tr.zai h1
 simp only at h2 h3 h4 h5 h6 h7 h8
 obtain ⟨r,i1,i2⟩:=zJQ hP hN
 have iG:zby=true:=by unfold zby;rw [i1];rfl
 have iF:zcb=r:=Tr.zai i1
 simp only [zhR,zfO,Tr.opt,hG,hL,iG,iF,i2,zn4,h2,h3,h4,h5,h6,h7,h8,zbN,zdp,cond_true,zbP,zvQ]
 cases he:zae e
 ·exact ⟨_,rfl,rfl⟩
 cases hv:okUp (Amb.len 0) 0
 ·exact ⟨_,rfl,rfl⟩
 cases hn:decide (((⟨1,rfl⟩:I64).val<=n.val/\n.val<=(⟨64,rfl⟩:I64).val))
 ·exact ⟨_,rfl,rfl⟩
 cases hl:decide ((lenA 0).val>24)
 ·have hn':1<=n.val/\n.val<=64:=by simpa using hn
  have hl':Amb.len 0<=24:=by
   have:=of_decide_eq_false hl
   rw [zoA] at this
   omega
  obtain ⟨u,u',r1,r2,r3,r4⟩:=zKM hP e n he hn' (fun j hj=>zEc _ 0 hv j (by omega) (by omega)) 100 1
   ⟨n,⟨1,rfl⟩,e.a,e.num,e.den,⟨0,rfl⟩,⟨0,rfl⟩,(zf ⟨0,rfl⟩).lo,(zf ⟨0,rfl⟩).hi⟩
   ⟨n,⟨1,rfl⟩,e.a,e.num,e.den,⟨0,rfl⟩,⟨0,rfl⟩,(zf ⟨0,rfl⟩).lo,(zf ⟨0,rfl⟩).hi⟩ rfl rfl rfl rfl rfl rfl (by omega) (by omega) (by omega) (by omega) rfl rfl
  have g1:zeb ⟨n,⟨1,rfl⟩,e.a,e.num,e.den,⟨0,rfl⟩,⟨0,rfl⟩,(zf ⟨0,rfl⟩).lo,(zf ⟨0,rfl⟩).hi⟩=true:=by unfold zeb;rw [r1];rfl
  have g2:zgq ⟨n,⟨1,rfl⟩,e.a,e.num,e.den,⟨0,rfl⟩,⟨0,rfl⟩,(zf ⟨0,rfl⟩).lo,(zf ⟨0,rfl⟩).hi⟩=true:=by unfold zgq;rw [r2];rfl
  have f1:ziu ⟨n,⟨1,rfl⟩,e.a,e.num,e.den,⟨0,rfl⟩,⟨0,rfl⟩,(zf ⟨0,rfl⟩).lo,(zf ⟨0,rfl⟩).hi⟩=u:=Tr.zai r1
  have f2:zjd ⟨n,⟨1,rfl⟩,e.a,e.num,e.den,⟨0,rfl⟩,⟨0,rfl⟩,(zf ⟨0,rfl⟩).lo,(zf ⟨0,rfl⟩).hi⟩=u':=Tr.zai r2
  simp only [g1,g2,f1,f2,r3,r4,Bool.and_self,Bool.not_true,Bool.not_false,cond_true,cond_false]
  exact ⟨_,rfl,rfl⟩
 ·exact ⟨_,rfl,rfl⟩
end Go.Proofs.YtaoakfodkoifoaaGreat.Ev
namespace Go.Proofs.YtaoakfodkoifoaaGreat.Ev
open Go Go.RowKit
set_option maxRecDepth 100000
theorem zHw:inB .i64 ((2:Nat):Int)=true:=by kernel_rfl
def el2 (p q:zaA):Nat->Int->Rng .i64×Rng .i64:=fun _ j=>if j=0 then (p.lat,p.lon) else (q.lat,q.lon)
@[reducible] def ambP (p q:zaA):Amb:=
 {A:=fun _=>some ⟨0,0,none⟩,len:=fun _=>2,cap:=fun _=>2,I:=fun _=>False,hlen:=fun _=>zHw,pl:=fun _=>2,hpl:=fun _=>Nat.le_refl _,el:=el2 p q,hel:=fun k j h0 h1=>⟨0,0,rfl,fun w hw=>hw.elim⟩}
def row2 (p q:zaA):Array Value:=#[.int .i64 p.lat.val,.int .i64 p.lon.val,.int .i64 q.lat.val,.int .i64 q.lon.val]
theorem zIt {w w':World} {r:Nat} {c:Array Value} {t:TypeId} (h:w.heap[r]?=some (.cells c t (0,0))) (hb:Below w.heap.size w w'):w'.heap[r]?=some (.cells c t (0,0)):=by
 rw [hb.block r (Array.getElem?_eq_some_iff.1 h).1];exact h
@[reducible] def ambR (p q:zaA) (r:Nat) (w:World) (t:TypeId) (h:w.heap[r]?=some (.cells (row2 p q) t (0,0))):Amb:=
 {A:=fun _=>some ⟨r,0,none⟩,len:=fun _=>2,cap:=fun _=>2,I:=fun w'=>Below w.heap.size w w',hlen:=fun _=>zHw,pl:=fun _=>2,hpl:=fun _=>Nat.le_refl _,el:=el2 p q
  hel:=fun k j h0 h1=>by
   refine ⟨r,0,rfl,fun w' hw=>?_⟩
   have e:=zIt h hw
   have h1':j<2:=h1
   rcases (show j=0\/j=1 by omega) with rfl|rfl
   ·constructor<;>(unfold World.cell?;simp only [e];rfl)
   ·constructor<;>(unfold World.cell?;simp only [e];rfl)}
def zix (e:Ell) (p q:zaA) (n:I64):T2 Iv I64:=(@zfO (ambP p q) e n).get
def blk2 (v:V) (bl:List (Nat×List V)):Option (Nat×zaA×zaA):=match v with
 | .slc b o l c=>bif Nat.beq o 0&&(Nat.beq l 2&&Nat.beq c 2) then (match lk bl b with
  | some [.i64 x,.i64 y,.i64 z,.i64 t]=>some (b,⟨x,y⟩,⟨z,t⟩)
  | _=>none) else none
 | _=>none
theorem zMO {v:V} {bl:List (Nat×List V)} {b:Nat} {p q:zaA} (h:blk2 v bl=some (b,p,q)):v= .slc b 0 2 2/\lk bl b=some [.i64 p.lat,.i64 p.lon,.i64 q.lat,.i64 q.lon]:=by
 unfold blk2 at h
 split at h<;>try (cases h;done)
 rename_i b' o l c
 cases hb:(Nat.beq o 0&&(Nat.beq l 2&&Nat.beq c 2)) with
 | false=>simp [hb] at h
 | true=>
  simp only [hb,cond_true] at h
  simp only [Bool.and_eq_true] at hb
  obtain ⟨h1,h2,h3⟩:=hb
  obtain rfl:=Nat.eq_of_beq_eq_true h1
  obtain rfl:=Nat.eq_of_beq_eq_true h2
  obtain rfl:=Nat.eq_of_beq_eq_true h3
  split at h<;>try (cases h;done)
  rename_i x y z t hl
  simp only [Option.some.injEq,Prod.mk.injEq] at h
  obtain ⟨rfl,rfl,rfl⟩:=h
  exact ⟨rfl,hl⟩
theorem zKT (w:World):∀ [Amb],Inv0 w:=by
 intro _
 unfold Inv0
 refine ⟨fun g cs hg=>(by cases hg),?_⟩
 unfold InvX
 intro q hq
 cases hq
theorem zFC [Amb] {w:World} {r:Nat} {t:TypeId} {ρ:Nat->Option Nat} (e:Ell) (p q:zaA) (n:I64) (h:w.heap[r]?=some (.cells (row2 p q) t (0,0))):
  Does Tryz.prog 24 #[.agg #[.int .i64 e.a.val,.int .i64 e.num.val,.int .i64 e.den.val],.slice (some ⟨r,0,none⟩) 2 2,.int .i64 n.val] w fun x w'=>VR ρ (enc (zix e p q n)) x/\Below w.heap.size w w':=by
 have key:Does Tryz.prog 24 #[.agg #[.int .i64 e.a.val,.int .i64 e.num.val,.int .i64 e.den.val],.slice (some ⟨r,0,none⟩) 2 2,.int .i64 n.val] w fun x w'=>x= .tuple #[.agg #[.int .i64 (zix e p q n).a.lo.val,.int .i64 (zix e p q n).a.hi.val],.int .i64 (zix e p q n).b.val]/\Below w.heap.size w w':=by
  letI A:Amb:=ambR p q r w t h
  obtain ⟨y,e1,e2⟩:=zD8 rfl (show Amb.len 0<=1048576 from by show 2<=1048576;omega) e n
  have hF:zix e p q n=y:=Tr.zai (show (@zfO (ambP p q) e n).opt=some y from e2)
  have hm:Am w:=fun w' hw=>⟨hw,zKT w'⟩
  have hv:VRs (fun _=>none) [enc e,.arg 0,enc n] [.agg #[.int .i64 e.a.val,.int .i64 e.num.val,.int .i64 e.den.val],.slice (some ⟨r,0,none⟩) 2 2,.int .i64 n.val]:=
   .cons (VR.agg (.cons (.i64 e.a) (.cons (.i64 e.num) (.cons (.i64 e.den) .nil)))) (.cons (.arg 0) (.cons (.i64 n) .nil))
  refine (Tb.run_does ((zsC e n).trans e2) hv rfl hm).mono fun x w' hx=>?_
  refine ⟨?_,hx.2⟩
  rw [hF]
  have hx1:=hx.1
  obtain ⟨⟨lo,hi⟩,c⟩:=y
  cases hx1 with
  | tup t=>cases t with
   | cons p t=>cases t with
    | cons q t=>cases t;cases q;cases p with
     | agg p=>cases p with
      | cons u p=>cases p with
       | cons v p=>cases p;cases u;cases v;rfl
 refine key.mono fun x w' hx=>?_
 obtain ⟨rfl,hb⟩:=hx
 exact ⟨VR.tup (.cons (.agg (.cons (.i64 _) (.cons (.i64 _) .nil))) (.cons (.i64 _) .nil)),hb⟩
variable [Amb]
def arg2 (vs:List V) (bl:List (Nat×List V)):Option (Ell×(Nat×zaA×zaA)×I64):=match vs with
 | [x,s,z]=>match (dec x:Option Ell),blk2 s bl,(dec z:Option I64) with
  | some e,some pq,some n=>some (e,pq,n)
  | _,_,_=>none
 | _=>none
def zM4:Ent Tryz.prog where
 id:=24
 g:=fun vs bl=>match arg2 vs bl with
  | some _=>true
  | none=>false
 fn:=fun vs bl=>match arg2 vs bl with
  | some (e,(b,p,q),n)=>some (enc (zix e p q n))
  | none=>none
 ok:=fun vs m v hg hf w0 ρ xs w hv hm=>by
  split at hf<;>try (cases hf;done)
  rename_i e b p q n ha
  simp only [Option.some.injEq] at hf
  subst hf
  unfold arg2 at ha
  split at ha<;>try (cases ha;done)
  rename_i x s z
  split at ha<;>try (cases ha;done)
  rename_i e' pq n' hx hs hz
  simp only [Option.some.injEq,Prod.mk.injEq] at ha
  obtain ⟨rfl,rfl,rfl⟩:=ha
  have e1:=Enc.dec_enc _ _ hx
  have e3:=Enc.dec_enc _ _ hz
  subst e1
  subst e3
  obtain ⟨rfl,hl⟩:=zMO hs
  obtain ⟨r,ys,ty,h1,h2,h3⟩:=hm.blk b _ hl
  have hys:ys.toArray=row2 p q:=by
   cases h3 with
   | cons a1 h3=>cases h3 with
    | cons a2 h3=>cases h3 with
     | cons a3 h3=>cases h3 with
      | cons a4 h3=>cases h3;cases a1;cases a2;cases a3;cases a4;rfl
  rw [hys] at h2
  cases hv with
  | cons v1 t=>cases t with
   | cons v2 t=>cases t with
    | cons v3 t=>
     cases t
     cases v3
     cases v2
     rename_i r' hr
     rw [h1] at hr
     cases hr
     cases v1 with
     | agg a=>cases a with
      | cons u1 a=>cases a with
       | cons u2 a=>cases a with
        | cons u3 a=>
         cases a;cases u1;cases u2;cases u3
         exact zFC _ p q _ h2
end Go.Proofs.YtaoakfodkoifoaaGreat.Ev
