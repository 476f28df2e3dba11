/- The law FnCylinders gives true, whatever bytes come in, where the listed tables hold what the program's text lays. The card: the tables tied to the text. No other conditions. (One of the texts of its proof, put together by a program of this session.) -/
import Derived.Test.YtkenfaengphiiaaGreatDoorZW5
import Derived.Test.YtkenfaengphiiaaGreatDoorZPT
set_option linter.unusedSectionVars false
set_option linter.unusedSimpArgs false
set_option linter.unusedVariables false
namespace Go.Proofs.YtkenfaengphiiaaGreatDoor.Ev
open Go Go.RowKit
set_option maxRecDepth 100000
section
variable [Amb]
structure zc2 where
 x0:I64
 x1:I64
 x2:I64
 x3:I64
 x4:I64
instance:Inhabited zc2:=⟨⟨default,default,default,default,default⟩⟩
noncomputable def zmc (x:zc2):St:=⟨[(1,.i64 x.x0),(2,.ptr 0 0),(4,.ptr 1 0)],27,⟨[(0,[.i64 x.x1,.i64 x.x2]),(1,[.i64 x.x3,.i64 x.x4])],2,0⟩⟩
noncomputable def zmf:St->Option zc2:=fun s=>match s with
 | ⟨[(1,.i64 x0),(2,.ptr 0 0),(4,.ptr 1 0)],27,⟨[(0,[.i64 x1,.i64 x2]),(1,[.i64 x3,.i64 x4])],2,0⟩⟩=>some ⟨x0,x1,x2,x3,x4⟩
 | _=>none
noncomputable def zcZ (x:zc2):Tr (Lp zc2):=
 .br (decide (x.x0.val>0)) (let c1:=zbW ⟨x.x1,x.x2⟩;.leaf (.again ⟨(Rng.w .i64 (x.x0.val-1)),c1.lo,c1.hi,x.x3,x.x4⟩)) (.leaf (.out ⟨x.x0,x.x1,x.x2,x.x3,x.x4⟩))
noncomputable def zeF (x:zc2):Bool:=(Lf zcZ 70 x).opt.isSome
noncomputable def zhT (x:zc2):zc2:=(Lf zcZ 70 x).get
noncomputable def zpI:Tb Tryz.prog:= {T:= [Y34],mix:=mix,Es:= [zlg],Bs:= [],d:=1}
noncomputable def zkf:LpF:=zvA [1,2,4] [0,1] 2 zmf zmc (.exit 0) zeF zhT
theorem zpw:zlt Tryz.prog (zox (Tryz.f158.body.getD .skip) 0) zkf:=zlV (t:=zpI) (lt:=fun _=>none) (body:=zcZ) (n:=70) (by intro h;cases h) (fun _ _ _ h=>by cases h)
 (by intro s x h;unfold zmf at h;split at h<;>cases h;rfl) (fun x b cs h=>zxp (l:=(zmc x).mm.blks) (by kernel_rfl) h) (by intro x;kernel_rfl) (fun x h=>Tr.get_some h)
noncomputable def B158:Bod Tryz.prog:=⟨158,Tryz.f158,Tryz.f158.body.getD .skip,Tryz.func158,by kernel_rfl,by kernel_rfl,⟨ltOf [(1,zkf)],zav.of (ks:= [1]) (by kernel_rfl) (by
 intro i k h f hf
 match i,h with
 | 0,h=>cases h;obtain rfl:zkf=f:=Option.some.inj hf;exact zpw
 | n+1,h=>simp at h)⟩⟩
noncomputable def zJY:Tb Tryz.prog:= {T:= [Y2,Y34],mix:=mix,Es:= [zaA,zbI],Bs:= [],d:=1}
noncomputable def zdl (a0:Iv) (a1:I64):Tr (Iv):=
 .br (zeF ⟨a1,a0.lo,a0.hi,⟨0,rfl⟩,⟨0,rfl⟩⟩) (let c3:=zhT ⟨a1,a0.lo,a0.hi,⟨0,rfl⟩,⟨0,rfl⟩⟩;.br (zas ⟨c3.x1,c3.x2⟩) (.leaf zL) (let c6:=(Rng.w .i64 (0-c3.x0.val));.br (decide (c6.val<0)) (.bad) (let c9:=(Rng.w .i64 (0-c3.x0.val));.br (decide (c9.val<0)) (.bad) (.leaf ⟨(Rng.w .i64 (c3.x1.val.fdiv (2^min (c6.val).toNat 64))),(Rng.w .i64 (0-(Rng.w .i64 ((Rng.w .i64 (0-c3.x2.val)).val.fdiv (2^min (c9.val).toNat 64))).val))⟩)))) (.bad)
theorem zvi (a0:Iv) (a1:I64):zJY.run B158 [enc a0,enc a1] (Iv)=(zdl a0 a1).opt:=by kernel_rfl
noncomputable def zh1:Iv->I64->Iv:=fun a0 a1=>(zdl a0 a1).get
noncomputable def zhW:Iv->I64->Bool:=fun a0 a1=>(zdl a0 a1).opt.isSome
noncomputable def zv0:Ent Tryz.prog:= .of2 zJY B158 zhW zh1 fun a0 a1 h=>(zvi a0 a1).trans (Tr.get_some h)
noncomputable def B117:Bod Tryz.prog:=⟨117,Tryz.f117,Tryz.f117.body.getD .skip,Tryz.func117,by kernel_rfl,by kernel_rfl,zav.no _ _⟩
noncomputable def zKr:Tb Tryz.prog:= {T:= [Y2,Y34],mix:=mix,Es:= [zf7,zeq,zaA,zdP,zjd,zcW,zkp,zf6,zc7,znA,zv0],Bs:= [],d:=1}
noncomputable def ziZ (a0:I64):Tr (Iv):=
 .br (!(zaO a0)) (.leaf zL) (.br (decide (a0.val>85899345920)) (.leaf zL) (.br (decide (a0.val<(-98784247808))) (.leaf ⟨⟨0,rfl⟩,⟨1,rfl⟩⟩) (let c8:=(Rng.w .i64 ((Rng.w .i64 ((Rng.w .i64 (2*a0.val)).val+2977044472)).val.tdiv 5954088944));.br (decide ((Rng.w .i64 ((Rng.w .i64 (c8.val*2)).val*2977044472)).val>(Rng.w .i64 ((Rng.w .i64 (2*a0.val)).val+2977044472)).val)) (let c14:=(Rng.w .i64 (c8.val-1));let c17:=zaJ (zc6 a0) (zdA c14);let c64:=zdw (zae (zB ⟨1,rfl⟩) (zat (zV c17 (zae (zB ⟨1,rfl⟩) (zat (zV c17 (zae (zB ⟨1,rfl⟩) (zat (zV c17 (zae (zB ⟨1,rfl⟩) (zat (zV c17 (zae (zB ⟨1,rfl⟩) (zat (zV c17 (zae (zB ⟨1,rfl⟩) (zat (zV c17 (zae (zB ⟨1,rfl⟩) (zat (zV c17 (zae (zB ⟨1,rfl⟩) (zat (zV c17 (zae (zB ⟨1,rfl⟩) (zat (zV c17 (zB ⟨1,rfl⟩)) (zB ⟨9,rfl⟩)))) (zB ⟨8,rfl⟩)))) (zB ⟨7,rfl⟩)))) (zB ⟨6,rfl⟩)))) (zB ⟨5,rfl⟩)))) (zB ⟨4,rfl⟩)))) (zB ⟨3,rfl⟩)))) (zB ⟨2,rfl⟩)))) (zB ⟨1,rfl⟩))) ⟨1,rfl⟩;.br (zhW c64 c14) (.leaf (zh1 c64 c14)) (.bad)) (let c68:=zaJ (zc6 a0) (zdA c8);let c115:=zdw (zae (zB ⟨1,rfl⟩) (zat (zV c68 (zae (zB ⟨1,rfl⟩) (zat (zV c68 (zae (zB ⟨1,rfl⟩) (zat (zV c68 (zae (zB ⟨1,rfl⟩) (zat (zV c68 (zae (zB ⟨1,rfl⟩) (zat (zV c68 (zae (zB ⟨1,rfl⟩) (zat (zV c68 (zae (zB ⟨1,rfl⟩) (zat (zV c68 (zae (zB ⟨1,rfl⟩) (zat (zV c68 (zae (zB ⟨1,rfl⟩) (zat (zV c68 (zB ⟨1,rfl⟩)) (zB ⟨9,rfl⟩)))) (zB ⟨8,rfl⟩)))) (zB ⟨7,rfl⟩)))) (zB ⟨6,rfl⟩)))) (zB ⟨5,rfl⟩)))) (zB ⟨4,rfl⟩)))) (zB ⟨3,rfl⟩)))) (zB ⟨2,rfl⟩)))) (zB ⟨1,rfl⟩))) ⟨1,rfl⟩;.br (zhW c115 c8) (.leaf (zh1 c115 c8)) (.bad)))))
theorem zw2 (a0:I64):zKr.run B117 [enc a0] (Iv)=(ziZ a0).opt:=by kernel_rfl
noncomputable def zjb:I64->Iv:=fun a0=>(ziZ a0).get
noncomputable def zfH (a0:Iv) (a1:I64):Tr (Iv):=
 .br (decide (a1.val>=0)) (.leaf (zab (Rng.w .i64 (a0.lo.val*(2^min ((Rng.w .u64 (a1.val)).val).toNat 64))) (Rng.w .i64 (a0.hi.val*(2^min ((Rng.w .u64 (a1.val)).val).toNat 64))))) (.leaf (zab (Rng.w .i64 (a0.lo.val.fdiv (2^min ((Rng.w .u64 ((Rng.w .i64 (0-a1.val)).val)).val).toNat 64))) (Rng.w .i64 (0-(Rng.w .i64 ((Rng.w .i64 (0-a0.hi.val)).val.fdiv (2^min ((Rng.w .u64 ((Rng.w .i64 (0-a1.val)).val)).val).toNat 64))).val))))
noncomputable def zbE:Iv->I64->Iv:=fun a0 a1=>(zfH a0 a1).get
noncomputable def zhn (a0:I64):Tr (Iv):=
 .br (!(zG a0)) (.leaf zt) (.br (decide (a0.val>85899345920)) (.leaf zt) (.br (decide (a0.val<(-98784247808))) (.leaf ⟨⟨0,rfl⟩,⟨1,rfl⟩⟩) (let c8:=(Rng.w .i64 ((Rng.w .i64 ((Rng.w .i64 (2*a0.val)).val+2977044472)).val.tdiv 5954088944));.br (decide ((Rng.w .i64 ((Rng.w .i64 ((Rng.w .i64 (2*a0.val)).val+2977044472)).val.tmod 5954088944)).val<0)) (let c12:=(Rng.w .i64 (c8.val-1));let c15:=zac (za2 a0) (zar c12);.leaf (zbE (zaT (zH zaa (zO (zz c15 (zH zaa (zO (zz c15 (zH zaa (zO (zz c15 (zH zaa (zO (zz c15 (zH zaa (zO (zz c15 (zH zaa (zO (zz c15 (zH zaa (zO (zz c15 (zH zaa (zO (zz c15 (zH zaa (zO (zz c15 zaa) (zy ⟨9,rfl⟩)))) (zy ⟨8,rfl⟩)))) (zy ⟨7,rfl⟩)))) (zy ⟨6,rfl⟩)))) (zy ⟨5,rfl⟩)))) (zy ⟨4,rfl⟩)))) (zy ⟨3,rfl⟩)))) (zy ⟨2,rfl⟩)))) (zy ⟨1,rfl⟩))) ⟨1,rfl⟩) c12)) (let c66:=zac (za2 a0) (zar c8);.leaf (zbE (zaT (zH zaa (zO (zz c66 (zH zaa (zO (zz c66 (zH zaa (zO (zz c66 (zH zaa (zO (zz c66 (zH zaa (zO (zz c66 (zH zaa (zO (zz c66 (zH zaa (zO (zz c66 (zH zaa (zO (zz c66 (zH zaa (zO (zz c66 zaa) (zy ⟨9,rfl⟩)))) (zy ⟨8,rfl⟩)))) (zy ⟨7,rfl⟩)))) (zy ⟨6,rfl⟩)))) (zy ⟨5,rfl⟩)))) (zy ⟨4,rfl⟩)))) (zy ⟨3,rfl⟩)))) (zy ⟨2,rfl⟩)))) (zy ⟨1,rfl⟩))) ⟨1,rfl⟩) c8)))))
noncomputable def zc4:I64->Iv:=fun a0=>(zhn a0).get
structure zgj where
 x0:I64
 x1:I64
 x2:I64
 x3:I64
 x4:I64
instance:Inhabited zgj:=⟨⟨default,default,default,default,default⟩⟩
noncomputable def zhP (x:zgj):Tr (Lp2 zgj):=
 .br (decide (x.x0.val<=(Rng.w .i64 ((zan x.x2).val+1)).val)) (.br ((Rng.w .i64 (zbv .and .i64 x.x0.val 1)).val==1) (.br (zo (za3 x.x0) ⟨x.x1,x.x2⟩) (.leaf (.out ⟨x.x0,x.x1,x.x2,zbe.lo,zbe.hi⟩)) (.leaf (.again ⟨(Rng.w .i64 (x.x0.val+1)),x.x1,x.x2,x.x3,x.x4⟩))) (.leaf (.again ⟨(Rng.w .i64 (x.x0.val+1)),x.x1,x.x2,x.x3,x.x4⟩))) (.leaf (.alt ⟨x.x0,x.x1,x.x2,x.x3,x.x4⟩))
noncomputable def zl7 (x:zgj):Bool:=(Lf2 zhP 1000 x).opt.isSome
noncomputable def zoM (x:zgj):Tw zgj:=(Lf2 zhP 1000 x).get
noncomputable def znG (a0:Iv):Tr (Iv):=
 .br (!(zcx a0)) (.leaf zbe) (let c4:=(Rng.w .i64 ((zan a0.lo).val-1));.br (zl7 ⟨c4,a0.lo,a0.hi,⟨0,rfl⟩,⟨0,rfl⟩⟩) (let c14:=zoM ⟨c4,a0.lo,a0.hi,⟨0,rfl⟩,⟨0,rfl⟩⟩;.br c14.b (.leaf ⟨c14.s.x3,c14.s.x4⟩) (.leaf (zaM (zO (zhr c14.s.x1) (zhs c14.s.x1)) (zO (zhr c14.s.x2) (zhs c14.s.x2))))) (.bad))
noncomputable def zdc:Iv->Iv:=fun a0=>(znG a0).get
end
end Go.Proofs.YtkenfaengphiiaaGreatDoor.Ev
namespace Go.Proofs.YtkenfaengphiiaaGreatDoor.Ev
open Go
theorem zzb (a b:Iv):(bif !(ze a&&ze b) then zt else zab a.lo b.hi)=zds a b:=by
 simp only [zds,zkY,Tr.get]
 cases ze a<;>cases ze b<;>simp [ctr,cfl]
theorem zCY (x:Iv):zkl x=zin x:=by
 simp only [zkl,zlK,zin,znI,Tr.get,znw,zl3,zbB,zeC,zvB,ctr,zzb]
theorem zAk {n:I64} (h: -1152921504606846976<n.val/\n.val<1152921504606846976):za2 n=zbq n:=by
 simp only [za2,zku,zbq,zhk,Tr.get]
 exact zb3 (by omega)
end Go.Proofs.YtkenfaengphiiaaGreatDoor.Ev
namespace Go.Proofs.YtkenfaengphiiaaGreatDoor.Ev
open Go Go.RowKit
set_option maxRecDepth 100000
variable [Amb]
noncomputable def TbN:Tb Tryz.prog:= {T:= [Y2,Y34],mix:=mix,Es:= [zml,zaA,zxS,zxW,zeq,zkW],N:=1}
noncomputable def BN:Bod Tryz.prog:=⟨41,Tryz.f41,Tryz.f41.body.getD .skip,Tryz.func41,by kernel_rfl,by kernel_rfl,zav.no _ _⟩
noncomputable def N0:Code:=sL BN.code
noncomputable def N1:Code:=sL (sR BN.code)
noncomputable def N3:Code:=sL (sL (sR (sR BN.code)))
noncomputable def NL:Code:=unl (unb (sR (sL (sR (sR BN.code)))))
noncomputable def N9:Code:=sR (sR (sR BN.code))
theorem zLp:BN.code=N0.seq (N1.seq ((N3.seq (.block 0 (.loop NL))).seq N9)):=by kernel_rfl
noncomputable def N4:Code:=sL NL
noncomputable def N5:Code:=sL (unb (sL (sR (sR NL))))
noncomputable def N6:Code:=sR (unb (sL (sR (sR NL))))
noncomputable def N8:Code:=sR (sR (sR NL))
theorem zLi:NL=N4.seq ((Code.cond (.tmp 13) .skip (.exit 0)).seq ((Code.block 1 (N5.seq N6)).seq N8)):=by kernel_rfl
noncomputable def nA (i:Nat):Oper:=(opsL N3).getD i default
theorem zLk:N3= .region 3 [nA 0,nA 1,nA 2,nA 3].toArray false:=by kernel_rfl
noncomputable def nB (i:Nat):Oper:=(opsL N5).getD i default
theorem zLj:N5= .region 5 [nB 0,nB 1,nB 2].toArray false:=by kernel_rfl
theorem nA_0:(nA 0).guard=none/\(nA 0).dst=some 9:=⟨by kernel_rfl,by kernel_rfl⟩
theorem nA_1:(nA 1).guard=none/\(nA 1).op= .call {callee:= .value (.func 107),args:=#[.tmp 9],argTypes:=#[34]}/\(nA 1).dst=some 10:=⟨by kernel_rfl,by kernel_rfl,by kernel_rfl⟩
theorem nA_2:(nA 2).guard=none/\(nA 2).op= .call {callee:= .builtin .len,args:=#[.tmp 10],argTypes:=#[72]}/\(nA 2).dst=some 11:=⟨by kernel_rfl,by kernel_rfl,by kernel_rfl⟩
theorem nA_3:(nA 3).guard=none/\(nA 3).op= .move (.const (.int .i64 0))/\(nA 3).dst=some 12:=⟨by kernel_rfl,by kernel_rfl,by kernel_rfl⟩
theorem nB_0:(nB 0).guard=none/\(nB 0).op= .indexAddr 72 (.tmp 10) (.tmp 12)/\(nB 0).dst=some 14:=⟨by kernel_rfl,by kernel_rfl,by kernel_rfl⟩
theorem nB_1:(nB 1).guard=none/\(nB 1).op= .load 2 (.tmp 14)/\(nB 1).dst=some 15:=⟨by kernel_rfl,by kernel_rfl,by kernel_rfl⟩
theorem nB_2:(nB 2).guard=none/\(nB 2).op= .assign (.tmp 15)/\(nB 2).dst=some 4:=⟨by kernel_rfl,by kernel_rfl,by kernel_rfl⟩
noncomputable def endN (x:Iv):Iv:=zbS (zat (zhv x.lo) (zhx x.lo)) (zat (zhv x.hi) (zhx x.hi))
noncomputable def odd1 (k:I64):Bool:=(Rng.w .i64 (zbv .and .i64 k.val 1)).val==1
def s1N (x z:Iv):St:=⟨[(1,.ptr 0 0),(2,.ptr 1 0)],36,⟨[(0,zic x),(1,zic z)],2,0⟩⟩
theorem n_0 (x:Iv):Piece TbN N0 [1,2] [0,1] ⟨zipF 0 [enc x],36,⟨[],0,0⟩⟩=some (.norm,s1N x zI):=by kernel_rfl
theorem n_1 (x:Iv):Piece TbN N1 [1,2] [0,1] (s1N x zI)=bif !(zbU x) then some (.ret,s1N x zL) else some (.norm,s1N x zI):=by kernel_rfl
theorem n_3 (x:Iv):opk (A:=V×Mem) TbN.T (zmV TbN.T (fun _=>TbN.drw) TbN.Es TbN.Bs TbN.N TbN.d) (s1N x zI) (nA 0) (fun v m=>some (v,m))=some (enc x,(s1N x zI).mm):=by kernel_rfl
inductive FrN:List Nat->List (Nat×List V)->V->Prop
 | nil:FrN [1,0] [] .nils
 | slc (n c:Nat) (cs:List V):FrN [1,0,2] [(2,cs)] (.slc 2 0 n c)
def sN (x:Iv) (z:Iv) (n i:I64) (tl:List (Nat×List V)) (LV:V) (ex:List (Nat×V)):St:=⟨ex ++ [(1,.ptr 0 0),(2,.ptr 1 0),(10,LV),(11,.i64 n),(12,.i64 i)],36,⟨(1,zic z)::(0,zic x)::tl,3,0⟩⟩
theorem n_4 {x z:Iv} {n i:I64} {bl:List Nat} {tl:List (Nat×List V)} {LV:V} (h:FrN bl tl LV):
  Piece TbN N4 [13,1,2,10,11,12] bl (sN x z n i tl LV [])=some (.norm,sN x z n i tl LV [(13,.bool (decide (i.val<n.val)))]):=by cases h<;>kernel_rfl
theorem n_6 {x:Iv} {n i k:I64} {bl:List Nat} {tl:List (Nat×List V)} {LV:V} (h:FrN bl tl LV):
  Piece TbN N6 [1,2,10,11,12] bl (sN x zI n i tl LV [(4,.i64 k)])=bif odd1 k then some (.ret,sN x zL n i tl LV []) else some (.norm,sN x zI n i tl LV []):=by cases h<;>kernel_rfl
theorem n_8 {x:Iv} {n i:I64} {bl:List Nat} {tl:List (Nat×List V)} {LV:V} (h:FrN bl tl LV):
  Piece TbN N8 [1,2,10,11,12] bl (sN x zI n i tl LV [])=some (.norm,sN x zI n (.w .i64 (i.val+1)) tl LV []):=by cases h<;>kernel_rfl
theorem n_9 {x:Iv} {n i:I64} {bl:List Nat} {tl:List (Nat×List V)} {LV:V} (h:FrN bl tl LV):
  Piece TbN N9 [2] [1] (sN x zI n i tl LV [])=some (.ret,⟨[(2,.ptr 1 0)],36,⟨[(1,zic (endN x))],3,0⟩⟩):=by cases h<;>kernel_rfl
structure NInv (x:Iv) (wc:World) (L:List I64) (v:Value) (n i:I64) (ex:List (Nat×V)) (bl:List Nat) (tl:List (Nat×List V)) (LV:V) (ρ:Nat->Option Nat) (a:Act) (w:World):Prop where
 rel:Rel wc ρ (sN x zI n i tl LV ex) a w
 fr:FrN bl tl LV
 hv:a.tmps[10]?=some v
 ls:(v= .slice none 0 0/\L= []/\tl= [])\/∃g cap m,v= .slice (some ⟨g,0,none⟩) L.length cap/\ρ 2=some g/\tl= [(2,(L++m).map V.i64)]
section
variable {x:Iv} {wc:World} {L:List I64} {v:Value} {n i:I64} {ex:List (Nat×V)} {bl:List Nat} {tl:List (Nat×List V)} {LV:V} {ρ:Nat->Option Nat} {a:Act} {w:World}
theorem NInv.go (h:NInv x wc L v n i ex bl tl LV ρ a w) (hLV:(v= .slice none 0 0/\LV= .nils)\/∃g cap,v= .slice (some ⟨g,0,none⟩) L.length cap/\LV= .slc 2 0 L.length cap/\ρ 2=some g) {ρ':Nat->Option Nat} (e:Ext ρ ρ') {i':I64} {ex':List (Nat×V)} {a':Act} {w':World}
  (hr:Rel wc ρ' (sN x zI n i' tl LV ex') a' w') (hlk:lk (sN x zI n i' tl LV ex').tm 10=some LV):NInv x wc L v n i' ex' bl tl LV ρ' a' w':=by
 obtain ⟨y,y1,y2⟩:=hr.tm 10 _ hlk
 refine ⟨hr,h.fr,?_,?_⟩
 ·rcases hLV with ⟨rfl,rfl⟩|⟨g,cap,rfl,rfl,hg⟩
  ·cases y2;exact y1
  ·cases y2
   rename_i r hr'
   rw [e 2 g hg] at hr';cases hr';exact y1
 ·rcases h.ls with h1|⟨g,cap,m,h1,h2,h3⟩
  ·exact .inl h1
  ·exact .inr ⟨g,cap,m,h1,e 2 g h2,h3⟩
end
theorem zA3 {x:Iv} {wc:World} {L:List I64} {v:Value} {n:I64} {bl:List Nat} {tl:List (Nat×List V)} {LV:V} (hn:n.val=L.length) (hL:L.length<=4000):
  ∀(m:Nat) (i:I64) (ρ:Nat->Option Nat) (a:Act) (w:World) (Q:Exit->Act->World->Prop),NInv x wc L v n i [] bl tl LV ρ a w->
  ((v= .slice none 0 0/\LV= .nils)\/∃g cap,v= .slice (some ⟨g,0,none⟩) L.length cap/\LV= .slc 2 0 L.length cap/\ρ 2=some g)->
  0<=i.val->i.val+m=L.length+1->1<=m->((L.drop i.val.toNat).any odd1=false->∀i' ρ' a' w',NInv x wc L v n i' [] bl tl LV ρ' a' w'->Q (.exit 0) a' w')->
  ((L.drop i.val.toNat).any odd1=true->∀i' ρ' a' w',Rel wc ρ' (sN x zL n i' tl LV []) a' w'->Q .ret a' w')->Code.rounds Tryz.prog NL Q m a w:=by
 intro m
 induction m with
 | zero=>intro i ρ a w Q _ _ _ _ h;omega
 | succ m ih=>
  intro i ρ a w Q h hLV hi hm _ hq hq'
  rw [rounds_succ,zLi]
  refine wp_seq (piece (n_4 h.fr) h.rel fun ρ1 a1 w1 e1 r1'=>?_)
  have hLV1:(v= .slice none 0 0/\LV= .nils)\/∃g cap,v= .slice (some ⟨g,0,none⟩) L.length cap/\LV= .slc 2 0 L.length cap/\ρ1 2=some g:=by
   rcases hLV with h|⟨g,cap,h1,h2,h3⟩
   ·exact .inl h
   ·exact .inr ⟨g,cap,h1,h2,e1 2 g h3⟩
  have i1:=h.go hLV e1 (ex':= [(13,.bool (decide (i.val<n.val)))]) r1' rfl
  obtain ⟨y,y1,y2⟩:=r1'.tm 13 _ rfl
  cases y2
  refine wp_seq (wp_cond (zcP y1) ?_)
  by_cases hlt:i.val<n.val
  ·rw [show decide (i.val<n.val)=true by simpa using hlt,if_pos rfl]
   refine wp_skip ?_
   show ((Code.block 1 (N5.seq N6)).seq N8).wp _ _ _ _
   refine wp_seq (wp_block (wp_seq ?_))
   rcases i1.ls with ⟨rfl,rfl,_⟩|⟨g,cap,mm,rfl,hg,htl⟩
   ·simp at hn;omega
   have hil:i.val.toNat<L.length:=by omega
   obtain ⟨kk,hkk⟩:∃kk,L[i.val.toNat]?=some kk:=⟨L[i.val.toNat],by simp [hil]⟩
   obtain ⟨g',ys,ty,hg',hrow,hys⟩:=r1'.mr.blk 2 ((L++mm).map V.i64) (by rw [htl];rfl)
   rw [hg] at hg';cases hg'
   have hyse:=zxY hys
   subst hyse
   obtain ⟨y24,z1,z2⟩:=r1'.tm 12 _ rfl
   cases z2
   have hsz:a1.tmps.size=36:=r1'.sz
   rw [zLj]
   refine wp_region_lit ?_
   obtain ⟨ti,tz,hti,_,hts,_,_⟩:=zBP
   have hcs:Tryz.prog.cellsOf 2=1:=by simp [Program.cellsOf,hti,hts]
   refine Go.Great.wpList_runTo nB_0.1 (some 14) nB_0.2.2 (.pointer (some ⟨g,0+i.val.toNat*1,none⟩)) w1 ?_ ?_
   ·have hsr:=zhL (P:=Tryz.prog) (t:=2) hcs (by decide) w1
    have hrun:(Instr.indexAt 72 (.slice (some ⟨g,0,none⟩) L.length cap) (.int .i64 i.val)).run Tryz.prog w1= .ok (.pointer (some ⟨g,0+i.val.toNat*1,none⟩)) w1:=by
     simp [Instr.indexAt,asIntOf,run_underlying zo6,hi,show i.val<(L.length:Int) by omega,hsr,addr_add]
    simp only [execOp,nB_0.2.1,zcP i1.hv,zcP z1,Sem.run_bind,hrun,Result.andThen_ok,Sem.run_pure]
   have f1:(a1.put (some 14) (.pointer (some ⟨g,0+i.val.toNat*1,none⟩))).tmps[14]?=some (.pointer (some ⟨g,0+i.val.toNat*1,none⟩)):=by rw [zaS (by omega),if_pos rfl]
   have g1:(a1.put (some 14) (.pointer (some ⟨g,0+i.val.toNat*1,none⟩))).tmps.size=36:=by rw [zd8,hsz]
   have hcell:w1.cell? ⟨g,0+i.val.toNat*1,none⟩=some (iv64 kk):=by
    rw [cell_of_row w1 g _ _ ty _ hrow]
    simp only [Nat.zero_add,Nat.mul_one,List.getElem?_toArray,List.getElem?_map]
    rw [List.getElem?_append_left hil,hkk];rfl
   refine Go.Great.wpList_runTo nB_1.1 (some 15) nB_1.2.2 (iv64 kk) w1 ?_ ?_
   ·have hagg:=Y2.run_agg (b:=false) (by kernel_rfl) w1
    have hag:(isAgg 2).run Tryz.prog w1= .ok false w1:=hagg
    simp only [execOp,nB_1.2.1,zcP f1,Instr.loadAt,Instr.sureAddr,loadVar,hag,Sem.run_bind,Sem.run_pure,Result.andThen_ok,Bool.false_eq_true,if_false,run_load,hcell]
   generalize hA2:a1.put (some 14) (.pointer (some ⟨g,0+i.val.toNat*1,none⟩))=a2 at *
   have f2:(a2.put (some 15) (iv64 kk)).tmps[15]?=some (iv64 kk):=by rw [zaS (by omega),if_pos rfl]
   have g2:(a2.put (some 15) (iv64 kk)).tmps.size=36:=by rw [zd8,g1]
   refine Go.Great.wpList_runTo nB_2.1 (some 4) nB_2.2.2 (iv64 kk) w1 (by simp only [execOp,nB_2.2.1,Sem.run_pure,zcP f2]) ?_
   refine wpList_nil ?_
   show N6.wp _ _ _ _
   have r2:Rel wc ρ1 (sN x zI n i tl LV [(4,.i64 kk)]) ((a2.put (some 15) (iv64 kk)).put (some 4) (iv64 kk)) w1:=by
    refine ⟨fun t' u hu=>?_,by rw [zd8,g2];rfl,?_,r1'.mr⟩
    ·simp only [sN,List.cons_append,List.nil_append,zbj] at hu
     by_cases h7:4=t'
     ·subst h7
      simp at hu;subst hu
      exact ⟨iv64 kk,by rw [zaS (by omega),if_pos rfl],.i64 _⟩
     ·rw [if_neg h7] at hu
      have hu':lk (sN x zI n i tl LV [(13,.bool (decide (i.val<n.val)))]).tm t'=some u/\t'≠14/\t'≠15:=by
       simp only [sN,List.cons_append,List.nil_append,zbj]
       by_cases h25:13=t'
       ·subst h25;simp [lk] at hu
       ·rw [if_neg h25]
        refine ⟨hu,?_,?_⟩
        ·rintro rfl;simp [lk] at hu
        ·rintro rfl;simp [lk] at hu
      obtain ⟨y,y1,y2⟩:=r1'.tm t' u hu'.1
      refine ⟨y,?_,y2⟩
      rw [zaS (by omega),if_neg (fun e=>h7 e.symm),zaS (by omega),if_neg hu'.2.2,<- hA2,zaS (by omega),if_neg hu'.2.1]
      exact y1
    ·rw [zi4,zi4,<- hA2,zi4];exact r1'.df
   have i2:NInv x wc L (.slice (some ⟨g,0,none⟩) L.length cap) n i [(4,.i64 kk)] bl tl LV ρ1 ((a2.put (some 15) (iv64 kk)).put (some 4) (iv64 kk)) w1:=by
    refine ⟨r2,i1.fr,?_,i1.ls⟩
    rw [zaS (by omega),if_neg (by decide),zaS (by omega),if_neg (by decide),<- hA2,zaS (by omega),if_neg (by decide)]
    exact i1.hv
   have hdrop:L.drop i.val.toNat=kk::L.drop (i.val.toNat+1):=by
    have hkk':L[i.val.toNat]=kk:=by rw [List.getElem?_eq_getElem hil] at hkk;simpa using hkk
    rw [List.drop_eq_getElem_cons hil,hkk']
   have ev:(Rng.w .i64 (i.val+1)).val=i.val+1:=wi (by omega) (by omega)
   rw [hdrop,List.any_cons] at hq hq'
   have q6:=n_6 (x:=x) (n:=n) (i:=i) (k:=kk) i2.fr
   cases hc1:odd1 kk
   ·rw [hc1,cond_false] at q6
    refine piece q6 i2.rel fun ρ3 a3 w3 e3 r3=>?_
    have i3:=i2.go hLV1 e3 (ex':= []) r3 rfl
    have hLV3:(Value.slice (some ⟨g,0,none⟩) L.length cap= .slice none 0 0/\LV= .nils)\/∃g' cap',Value.slice (some ⟨g,0,none⟩) L.length cap= .slice (some ⟨g',0,none⟩) L.length cap'/\LV= .slc 2 0 L.length cap'/\ρ3 2=some g':=by
     rcases hLV1 with h|⟨g',cap',h1,h2,h3⟩
     ·exact .inl h
     ·exact .inr ⟨g',cap',h1,h2,e3 2 g' h3⟩
    refine piece (n_8 i3.fr) i3.rel fun ρ4 a4 w4 e4 r4=>?_
    have i4:=i3.go hLV3 e4 (ex':= []) r4 rfl
    rw [hc1,Bool.false_or] at hq hq'
    refine ih (.w .i64 (i.val+1)) ρ4 a4 w4 Q i4 ?_ (by rw [ev];omega) (by rw [ev];omega) (by omega) ?_ ?_
    ·rcases hLV3 with h|⟨g',cap',h1,h2,h3⟩
     ·exact .inl h
     ·exact .inr ⟨g',cap',h1,h2,e4 2 g' h3⟩
    ·rw [ev,show (i.val+1).toNat=i.val.toNat+1 by omega];exact hq
    ·rw [ev,show (i.val+1).toNat=i.val.toNat+1 by omega];exact hq'
   ·rw [hc1,cond_true] at q6
    refine piece q6 i2.rel fun ρ3 a3 w3 e3 r3=>?_
    rw [hc1,Bool.true_or] at hq'
    exact hq' rfl i ρ3 a3 w3 r3
  ·rw [show decide (i.val<n.val)=false by simpa using hlt,if_neg (by decide)]
   refine wp_exit ?_
   have hd:L.drop i.val.toNat= []:=List.drop_eq_nil_of_le (by omega)
   rw [hd] at hq
   refine hq rfl i ρ1 a1 w1 ⟨?_,i1.fr,i1.hv,i1.ls⟩
   exact ⟨fun t' u hu=>r1'.tm t' u (by
    simp only [sN,List.cons_append,List.nil_append,zbj] at hu ⊢
    by_cases h25:13=t'
    ·subst h25;simp [lk] at hu
    ·rw [if_neg h25];exact hu),r1'.sz,r1'.df,r1'.mr⟩
noncomputable def zbQ (x:Iv):Iv:=bif !(zbU x) then zL else bif (zhg x 1000 (k0 x)).any odd1 then zL else endN x
theorem zEu (x:Iv) {ρ:Nat->Option Nat} {xs:List Value} {w:World} (hv:VRs ρ [enc x] xs) (ha:Am w):
  Does Tryz.prog 41 xs.toArray w fun v w'=>(∀ρ,VR ρ (enc (zbQ x)) v)/\Below w.heap.size w w':=by
 refine zpz BN (vs:= [enc x]) (show 1<=BN.fn.ntmps from Nat.le_of_ble_eq_true (by kernel_rfl)) hv rfl ha fun a hR=>?_
 have hres:∀(o:Iv) (tm:List (Nat×V)) (bs:List (Nat×List V)) (n:Nat),resv (P:=Tryz.prog) TbN.T ⟨(2,.ptr 1 0)::tm,36,⟨(1,zic o)::bs,n,0⟩⟩ BN.fn.results.toList=some [enc o]:=by
  intro o tm bs n;kernel_rfl
 have fin:∀(o:Iv) (tm:List (Nat×V)) (bs:List (Nat×List V)) (n:Nat) (ρ':Nat->Option Nat) (a':Act) (w':World),o=zbQ x->Rel w ρ' ⟨(2,.ptr 1 0)::tm,36,⟨(1,zic o)::bs,n,0⟩⟩ a' w'->
   bodyPost Tryz.prog BN.fn (fun e w'=>∃v,e= .returned v/\(∀ρ,VR ρ (enc (zbQ x)) v)/\Below w.heap.size w w') .ret a' w':=by
  intro o tm bs n ρ' a' w' ho hr
  obtain ⟨z,z1,z2⟩:=zjZ (P:=Tryz.prog) hr (hres o tm bs n)
  subst ho
  exact ⟨hr.df,z,z1,z,rfl,fun ρ2=>z2.pf rfl,hr.mr.bel⟩
 have fin1:∀(o:Iv) (ρ':Nat->Option Nat) (a':Act) (w':World) (tm:List (Nat×V)) (bs:List (Nat×List V)) (n:Nat),lk tm 2=some (.ptr 1 0)->lk bs 1=some (zic o)->o=zbQ x->Rel w ρ' ⟨tm,36,⟨bs,n,0⟩⟩ a' w'->
   bodyPost Tryz.prog BN.fn (fun e w'=>∃v,e= .returned v/\(∀ρ,VR ρ (enc (zbQ x)) v)/\Below w.heap.size w w') .ret a' w':=by
  intro o ρ' a' w' tm bs n h2 h1 ho hr
  refine fin o [] [] n ρ' a' w' ho ⟨fun t' u hu=>hr.tm t' u ?_,hr.sz,hr.df,⟨fun b cs hb=>hr.mr.blk b cs ?_,hr.mr.inj,hr.mr.fresh,hr.mr.dom,hr.mr.own,hr.mr.bel,hr.mr.lon,hr.mr.am⟩⟩
  ·simp only [zbj] at hu
   by_cases h4:2=t'
   ·subst h4;simp at hu;subst hu;exact h2
   ·rw [if_neg h4] at hu;simp [lk] at hu
  ·simp only [zbj] at hb
   by_cases h4:1=b
   ·subst h4;simp at hb;subst hb;exact h1
   ·rw [if_neg h4] at hb;simp [lk] at hb
 rw [zLp]
 refine wp_seq (piece (n_0 x) hR fun ρ1 a1 w1 e1 r1=>?_)
 have q1:=n_1 x
 cases hang:zbU x
 ·rw [hang,Bool.not_false,cond_true] at q1
  refine wp_seq (piece q1 r1 fun ρ2 a2 w2 e2 r2=>?_)
  exact fin1 zL ρ2 a2 w2 _ _ _ rfl rfl (by simp only [zbQ,hang,Bool.not_false,cond_true]) r2
 rw [hang,Bool.not_true,cond_false] at q1
 refine wp_seq (piece q1 r1 fun ρ3 a3 w3 e3 r3=>?_)
 show ((N3.seq (.block 0 (.loop NL))).seq N9).wp _ _ _ _
 refine wp_seq (wp_seq ?_)
 rw [zLk]
 refine wp_region_lit ?_
 refine zCx (n_3 x) nA_0.1 (by rw [nA_0.2];rfl) r3 fun ρ4 a4 w4 e4 r4=>?_
 rw [nA_0.2] at r4
 obtain ⟨y21,p1,p2⟩:=r4.tm 9 (enc x) rfl
 have hb1:=r4.mr.bel
 refine wpList_plain nA_1.1 fun K hK=>?_
 have ecall:(execOp a4.eval (nA 1)).run Tryz.prog w4=(callFunc 107 [y21].toArray).run Tryz.prog w4:=by
  simp only [execOp,nA_1.2.1,resolve,List.map_toArray,List.map_cons,List.map_nil,zcP p1]
  rfl
 unfold Oper.wp
 rw [ecall]
 refine ztV x (.cons p2 .nil) r4.mr.amb (nA 1) a4 K _ fun v w5 hvw=>hK _ _ ?_
 obtain ⟨hown,hbel⟩:=hvw
 rw [nA_1.2.2]
 have hsz:a4.tmps.size=36:=r4.sz
 have s1:(a4.put (some 10) v).tmps.size=36:=by rw [zd8,hsz]
 have f22:(a4.put (some 10) v).tmps[10]?=some v:=by rw [zaS (by omega),if_pos rfl]
 have hlen:=zrS x 1000 (k0 x)
 generalize hL:zhg x 1000 (k0 x)=L at *
 obtain ⟨av,cv,hve⟩:=zCu hown
 refine Go.Great.wpList_runTo nA_2.1 (some 11) nA_2.2.2 (.int .i64 (L.length:Int)) w5 ?_ ?_
 ·have hrun:(Builtin.len_ #[72] (nA 2).type #[v]).run Tryz.prog w5= .ok (.int .i64 (L.length:Int)) w5:=by
   have h1:(#[72]:Array TypeId)[0]?=some 72:=rfl
   have h2:(#[v]:Array Value)[0]?=some (.slice av L.length cv):=by rw [hve];rfl
   simp only [Builtin.len_,h1,h2,Sem.run_bind,run_underlying zo6,Result.andThen_ok,Sem.run_pure,goInt]
  simp only [execOp,nA_2.2.1,resolve,invoke,builtin,pure_bind,List.map_toArray,List.map_cons,List.map_nil,zcP f22,Sem.run_bind,Sem.run_pure,hrun,Result.andThen_ok]
 have s2:((a4.put (some 10) v).put (some 11) (.int .i64 (L.length:Int))).tmps.size=36:=by rw [zd8,s1]
 refine Go.Great.wpList_runTo nA_3.1 (some 12) nA_3.2.2 (.int .i64 0) w5 (by simp only [execOp,nA_3.2.1,Act.eval,Sem.run_pure]) ?_
 have s3:(((a4.put (some 10) v).put (some 11) (.int .i64 (L.length:Int))).put (some 12) (.int .i64 0)).tmps.size=36:=by rw [zd8,s2]
 have g22:(((a4.put (some 10) v).put (some 11) (.int .i64 (L.length:Int))).put (some 12) (.int .i64 0)).tmps[10]?=some v:=by rw [zaS (by omega),if_neg (by decide),zaS (by omega),if_neg (by decide),zaS (by omega),if_pos rfl]
 have g23:(((a4.put (some 10) v).put (some 11) (.int .i64 (L.length:Int))).put (some 12) (.int .i64 0)).tmps[11]?=some (.int .i64 (L.length:Int)):=by rw [zaS (by omega),if_neg (by decide),zaS (by omega),if_pos rfl]
 have g24:(((a4.put (some 10) v).put (some 11) (.int .i64 (L.length:Int))).put (some 12) (.int .i64 0)).tmps[12]?=some (.int .i64 0):=by rw [zaS (by omega),if_pos rfl]
 have gold:∀t',t'≠10->t'≠11->t'≠12->(((a4.put (some 10) v).put (some 11) (.int .i64 (L.length:Int))).put (some 12) (.int .i64 0)).tmps[t']?=a4.tmps[t']?:=fun t' h1 h2 h3=>by
  rw [zaS (by omega),if_neg h3,zaS (by omega),if_neg h2,zaS (by omega),if_neg h1]
 have gdf:(((a4.put (some 10) v).put (some 11) (.int .i64 (L.length:Int))).put (some 12) (.int .i64 0)).defers= []:=by rw [zi4,zi4,zi4];exact r4.df
 generalize ((a4.put (some 10) v).put (some 11) (.int .i64 (L.length:Int))).put (some 12) (.int .i64 0)=a6 at *
 refine wpList_nil ?_
 show (Code.block 0 (.loop NL)).wp _ _ _ _
 have hnv:(Rng.w .i64 (L.length:Int)).val=L.length:=wi (by omega) (by omega)
 have mk:∀(ρ5:Nat->Option Nat) (tl:List (Nat×List V)) (LV:V),Ext ρ4 ρ5->VR ρ5 LV v->(∀b r,ρ5 b=some r->ρ4 b=some r\/(b=2/\w4.heap.size<=r/\r<w5.heap.size))->
   (∀b cs,lk tl b=some cs->∃r xs t,ρ5 b=some r/\w5.heap[r]?=some (.cells xs.toArray t (0,0))/\VRs ρ5 cs xs)->Rel w ρ5 (sN x zI (.w .i64 (L.length:Int)) ⟨0,rfl⟩ tl LV []) a6 w5:=by
  intro ρ5 tl LV he hLV hnew htl
  have old:∀b r,ρ4 b=some r->r<w4.heap.size:=r4.mr.dom
  refine ⟨fun t' u hu=>?_,s3,gdf,⟨fun b cs hb=>?_,fun b b' r h1 h2=>?_,fun b hb=>?_,fun b r hr=>?_,fun b r _ hr=>?_,hb1.trans (hbel.mono hb1.size),Nat.zero_le _,r4.mr.am⟩⟩
  ·simp only [sN,List.nil_append,zbj] at hu
   by_cases h1:1=t'
   ·subst h1;simp at hu;subst hu
    obtain ⟨y,y1,y2⟩:=r4.tm 1 (.ptr 0 0) rfl
    exact ⟨y,by rw [gold 1 (by decide) (by decide) (by decide)];exact y1,y2.mono he⟩
   rw [if_neg h1] at hu
   by_cases h4:2=t'
   ·subst h4;simp at hu;subst hu
    obtain ⟨y,y1,y2⟩:=r4.tm 2 (.ptr 1 0) rfl
    exact ⟨y,by rw [gold 2 (by decide) (by decide) (by decide)];exact y1,y2.mono he⟩
   rw [if_neg h4] at hu
   by_cases h22:10=t'
   ·subst h22;simp at hu;subst hu;exact ⟨v,g22,hLV⟩
   rw [if_neg h22] at hu
   by_cases h23:11=t'
   ·subst h23;simp at hu;subst hu
    refine ⟨_,g23,?_⟩
    have:=VR.i64 (ρ:=ρ5) (Rng.w .i64 (L.length:Int))
    rw [hnv] at this;exact this
   rw [if_neg h23] at hu
   by_cases h24:12=t'
   ·subst h24;simp at hu;subst hu;exact ⟨_,g24,.i64 _⟩
   rw [if_neg h24] at hu;simp [lk] at hu
  ·have keep:∀b cs,lk (s1N x zI).mm.blks b=some cs->∃r xs t,ρ5 b=some r/\w5.heap[r]?=some (.cells xs.toArray t (0,0))/\VRs ρ5 cs xs:=fun b cs hb=>by
    obtain ⟨r,xs,t',h1,h2,h3⟩:=r4.mr.blk b cs hb
    exact ⟨r,xs,t',he _ _ h1,by rw [hbel.block r (old b r h1)];exact h2,h3.mono he⟩
   simp only [sN,zbj] at hb
   by_cases h2:1=b
   ·subst h2;simp at hb;subst hb;exact keep 1 _ rfl
   rw [if_neg h2] at hb
   by_cases h1:0=b
   ·subst h1;simp at hb;subst hb;exact keep 0 _ rfl
   rw [if_neg h1] at hb
   exact htl b cs hb
  ·rcases hnew b r h1 with h1|h1<;>rcases hnew b' r h2 with h2|h2
   ·exact r4.mr.inj b b' r h1 h2
   ·have:=old b r h1;omega
   ·have:=old b' r h2;omega
   ·omega
  ·have hb3:3<=b:=hb
   cases hr:ρ5 b with
   | none=>rfl
   | some r=>
    rcases hnew b r hr with h1|h1
    ·have:=r4.mr.fresh b (show 2<=b by omega)
     rw [this] at h1;cases h1
    ·omega
  ·rcases hnew b r hr with h1|h1
   ·have h2:=old b r h1;have h3:=hbel.size;omega
   ·exact h1.2.2
  ·rcases hnew b r hr with h1|h1
   ·exact r4.mr.own b r (Nat.zero_le _) h1
   ·have h2:=hb1.size;omega
 have run:∀(ρ5:Nat->Option Nat) (bl:List Nat) (tl:List (Nat×List V)) (LV:V),NInv x w L v (.w .i64 (L.length:Int)) ⟨0,rfl⟩ [] bl tl LV ρ5 a6 w5->
   ((v= .slice none 0 0/\LV= .nils)\/∃g cap,v= .slice (some ⟨g,0,none⟩) L.length cap/\LV= .slc 2 0 L.length cap/\ρ5 2=some g)->
   (Code.block 0 (.loop NL)).wp Tryz.prog (Exit.then (N9.wp Tryz.prog (bodyPost Tryz.prog BN.fn (fun e w'=>∃v,e= .returned v/\(∀ρ,VR ρ (enc (zbQ x)) v)/\Below w.heap.size w w'))) (bodyPost Tryz.prog BN.fn (fun e w'=>∃v,e= .returned v/\(∀ρ,VR ρ (enc (zbQ x)) v)/\Below w.heap.size w w'))) a6 w5:=by
  intro ρ5 bl tl LV hi hLV
  refine wp_block (wp_loop_rounds (L.length+1) (zA3 hnv (by omega) (L.length+1) ⟨0,rfl⟩ _ _ _ _ hi hLV (by decide) (by simp) (by omega) (fun hany i' ρ6 a7 w7 hh=>?_) (fun hany i' ρ6 a7 w7 hh=>?_)))
  ·show N9.wp _ _ _ _
   refine piece (n_9 hh.fr) hh.rel fun ρ7 a8 w8 e8 r8=>?_
   refine fin (endN x) [] [] 3 ρ7 a8 w8 ?_ r8
   have hany':L.any odd1=false:=hany
   simp only [zbQ,hang,Bool.not_true,cond_false,hL,hany']
  ·have hany':L.any odd1=true:=hany
   exact fin1 zL ρ6 a7 w7 _ _ _ rfl rfl (by simp only [zbQ,hang,Bool.not_true,cond_false,hL,hany',cond_true]) hh
 rcases hown with ⟨rfl,hLn⟩|⟨g,cap,m,rfl,h2,h3,h4⟩
 ·refine run ρ4 [1,0] [] .nils ⟨mk ρ4 [] .nils (Ext.refl _) .nils (fun b r h=> .inl h) (fun b cs h=>by simp [lk] at h),.nil,g22,.inl ⟨rfl,hLn,rfl⟩⟩ (.inl ⟨rfl,rfl⟩)
 ·have hgs:g<w5.heap.size:=(Array.getElem?_eq_some_iff.1 h3).1
  have hn3:ρ4 2=none:=r4.mr.fresh 2 (show 2<=2 by omega)
  have hE:Ext ρ4 (fun b=>if b=2 then some g else ρ4 b):=fun b r hr=>by
   by_cases hb:b=2
   ·subst hb;rw [hn3] at hr;cases hr
   ·simp [hb,hr]
  have h33:(fun b=>if b=2 then some g else ρ4 b:Nat->Option Nat) 2=some g:=by simp
  refine run _ [1,0,2] [(2,(L++m).map V.i64)] (.slc 2 0 L.length cap) ⟨mk _ _ _ hE (.slc h33) (fun b r hr=>?_) (fun b cs hb=>?_),.slc _ _ _,g22,.inr ⟨g,cap,m,rfl,h33,rfl⟩⟩ (.inr ⟨g,cap,rfl,rfl,h33⟩)
  ·split at hr
   ·cases hr;exact .inr ⟨by assumption,h2,hgs⟩
   ·exact .inl hr
  ·simp only [zbj] at hb
   by_cases h:2=b
   ·subst h;simp at hb;subst hb
    exact ⟨g,(L++m).map iv64,_,h33,h3,by simpa using zBK (L++m)⟩
   ·rw [if_neg h] at hb;simp [lk] at hb
noncomputable def zzw:Ent Tryz.prog where
 id:=41
 g:=fun _ _=>true
 fn:=fun vs _=>match vs with
  | [x]=>match (dec x:Option Iv) with
   | some x=>some (enc (zbQ x))
   | _=>none
  | _=>none
 ok:=fun vs m v _ hf w0 ρ xs w hv hm=>by
  split at hf<;>try (cases hf;done)
  split at hf<;>try (cases hf;done)
  rename_i x hx
  cases hf
  have e1:=Enc.dec_enc _ _ hx
  subst e1
  exact (zEu x hv hm.amb).mono fun v w' h=>⟨h.1 ρ,h.2⟩
end Go.Proofs.YtkenfaengphiiaaGreatDoor.Ev
namespace Go.Proofs.YtkenfaengphiiaaGreatDoor.Ev
open Go
theorem zEt (x:Iv) (p q:I64) (hk1:(k1 x).val<=4000):∀(n:Nat) (k:I64),1<=n->(k1 x).val-k.val+1<n-> -5000<=k.val->
  ∃k',(Lf2 zhP n ⟨k,x.lo,x.hi,p,q⟩).opt=some ⟨(zhg x n k).any odd1,⟨k',x.lo,x.hi,bif (zhg x n k).any odd1 then zbe.lo else p,bif (zhg x n k).any odd1 then zbe.hi else q⟩⟩:=by
 intro n
 induction n with
 | zero=>intro k h;omega
 | succ n ih=>
  intro k _ hn hlow
  have ek1:(Rng.w .i64 ((zan x.hi).val+1))=k1 x:=by unfold k1;rw [zeB]
  by_cases hk:k.val<=(k1 x).val
  ·have ev:(Rng.w .i64 (k.val+1)).val=k.val+1:=wi (by omega) (by omega)
   have ihk:=ih (.w .i64 (k.val+1)) (by omega) (by rw [ev];omega) (by rw [ev];omega)
   have hd:decide (k.val<=(k1 x).val)=true:=by simpa using hk
   have hx:(⟨x.lo,x.hi⟩:Iv)=x:=rfl
   simp only [Lf2,zhP,ek1,hd,cond_true,Tr.bind,Tr.opt,zhg,zll,zjs,hx]
   cases hodd:(Rng.w .i64 (zbv .and .i64 k.val 1)).val==1
   ·have ho:odd1 k=false:=hodd
    simp only [cond_false]
    cases hov:zo (za3 k) x
    ·simp only [cond_false];exact ihk
    ·simp only [cond_true,List.any_cons,ho,Bool.false_or];exact ihk
   ·have ho:odd1 k=true:=hodd
    simp only [cond_true]
    cases hov:zo (za3 k) x
    ·simp only [cond_false];exact ihk
    ·exact ⟨k,by simp only [cond_true,List.any_cons,ho,Bool.true_or]⟩
  ·have hd:decide (k.val<=(k1 x).val)=false:=by simpa using hk
   exact ⟨k,by simp only [Lf2,zhP,ek1,hd,cond_false,Tr.bind,Tr.opt,zhg,List.any_nil]⟩
theorem zIq (x:Iv):(znG x).opt=some (zbQ x):=by
 have hb:=k_bd x
 simp only [znG,Tr.opt,zbQ,zvJ]
 cases zcx x
 ·simp only [Bool.not_false,cond_true]
  rw [zbB,zdi]
 simp only [Bool.not_true,cond_false]
 have ek0:(Rng.w .i64 ((zan x.lo).val-1))=k0 x:=by unfold k0;rw [zeB]
 rw [ek0]
 obtain ⟨k',h⟩:=zEt x ⟨0,rfl⟩ ⟨0,rfl⟩ (by omega) 1000 (k0 x) (by decide) (by omega) (by omega)
 have g:zl7 ⟨k0 x,x.lo,x.hi,⟨0,rfl⟩,⟨0,rfl⟩⟩=true:=by unfold zl7;rw [h];rfl
 have l:zoM ⟨k0 x,x.lo,x.hi,⟨0,rfl⟩,⟨0,rfl⟩⟩=_:=Tr.zao h
 rw [g,l]
 simp only [cond_true]
 cases (zhg x 1000 (k0 x)).any odd1
 ·simp only [cond_false,endN,zmS,zmi,zzN,zAI]
 ·simp only [cond_true]
  rw [zbB,<- zdi]
theorem zBW (x:Iv):zbQ x=zdc x:=(Tr.zao (zIq x)).symm
end Go.Proofs.YtkenfaengphiiaaGreatDoor.Ev
namespace Go.Proofs.YtkenfaengphiiaaGreatDoor.Ev
open Go
theorem quoS {x m:Int} (hx: -4294967296<=x/\x<=4294967296) (hm:1<=m): -4294967296<=x*4294967296/(m*4294967296)/\x*4294967296/(m*4294967296)<=4294967296 /\ -4294967296 <= -x*4294967296/(m*4294967296) /\ -x*4294967296/(m*4294967296)<=4294967296 /\
  x*4294967296/(m*4294967296) <= -(-x*4294967296/(m*4294967296)):=by
 rw [Int.mul_ediv_mul_of_pos_left _ _ (by decide),Int.mul_ediv_mul_of_pos_left _ _ (by decide)]
 have h1:=zlX (M:=4294967296) (N:=x) (d:=m) (by omega) (by omega) (by omega)
 have h3:=zlX (M:=4294967296) (N:= -x) (d:=m) (by omega) (by omega) (by omega)
 have h4: -x/m <= -(x/m):=by
  have e1:=Int.mul_ediv_add_emod x m
  have e2:=Int.emod_nonneg x (show m≠0 by omega)
  have hh: -x<=m * -(x/m):=by rw [Int.mul_neg];omega
  have h5: -x/m<=(m * -(x/m))/m:=Int.ediv_le_ediv (by omega) hh
  rw [Int.mul_ediv_cancel_left _ (by omega)] at h5
  exact h5
 omega
def InR (a:Iv):Prop:= -4294967296<=a.lo.val/\a.lo.val<=a.hi.val/\a.hi.val<=4294967296
theorem InR.ok {a:Iv} (h:InR a):ze a=true:=(zbC a).2 (by unfold InR at h;omega)
theorem divS {y:Iv} {n:I64} (hy:InR y) (hn:1<=n.val/\n.val<=1000000):InR (zO y (zy n)):=by
 have h1:=hy
 unfold InR at h1
 rw [zmR (by omega)]
 have ev:(Rng.w .i64 (n.val*4294967296)).val=n.val*4294967296:=wi (by omega) (by omega)
 obtain ⟨lo,hi,e,h⟩:=zDI (a:=y) (b:=⟨.w .i64 (n.val*4294967296),.w .i64 (n.val*4294967296)⟩) (L:= -4294967296) (H:=4294967296) hy.ok ((zbC _).2 (by simp only [ev];omega))
  (by simp only [zbr,zeZ,Tr.get,zcO,ev];simp;omega) (by decide) (by decide) (fun x z hx hz=>by
   have hz':z= .w .i64 (n.val*4294967296):=by rcases hz with h|h<;>exact h
   subst hz'
   have hx1: -4294967296<=x.val/\x.val<=4294967296:=by rcases hx with rfl|rfl<;>omega
   obtain ⟨q1,q2,q3,q4,q5⟩:=quoS hx1 hn.1
   have en:(Rng.w .i64 (0-x.val)).val= -x.val:=by rw [wi (by omega) (by omega)];omega
   have m1:MD x ⟨4294967296,rfl⟩ (.w .i64 (n.val*4294967296))=⟨.w .i64 (x.val*4294967296/(n.val*4294967296)),true⟩:=by
    unfold MD;rw [if_pos (by rw [ev];omega),ev];exact zfd (v:=x.val*4294967296/(n.val*4294967296)) (by omega) (by omega)
   have m2:MD (.w .i64 (0-x.val)) ⟨4294967296,rfl⟩ (.w .i64 (n.val*4294967296))=⟨.w .i64 (-x.val*4294967296/(n.val*4294967296)),true⟩:=by
    unfold MD;rw [if_pos (by rw [ev];omega),ev,en];exact zfd (v:= -x.val*4294967296/(n.val*4294967296)) (by omega) (by omega)
   have o1:zG x=true:=ok3 (by omega)
   have o2:zG (.w .i64 (0-x.val))=true:=ok3 (by rw [en];omega)
   have o3:zG (.w .i64 (n.val*4294967296))=true:=ok3 (by rw [ev];omega)
   have z0:((Rng.w .i64 (n.val*4294967296)).val==0)=false:=by rw [ev];simp;omega
   have z1:decide ((Rng.w .i64 (n.val*4294967296)).val<0)=false:=by rw [ev];simp;omega
   have d1:zM x (.w .i64 (n.val*4294967296))=⟨.w .i64 (x.val*4294967296/(n.val*4294967296)),true⟩:=by
    simp only [zM,zbF,Tr.get,o1,o3,z0,z1,Bool.not_true,cond_false,zd9,m1]
    rw [zp6 (by rw [wi (by omega) (by omega)];omega)]
   have d2:zM (.w .i64 (0-x.val)) (.w .i64 (n.val*4294967296))=⟨.w .i64 (-x.val*4294967296/(n.val*4294967296)),true⟩:=by
    simp only [zM,zbF,Tr.get,o2,o3,z0,z1,Bool.not_true,cond_false,zd9,m2]
    rw [zp6 (by rw [wi (by omega) (by omega)];omega)]
   have d3:zY x (.w .i64 (n.val*4294967296))=⟨.w .i64 (0 - -x.val*4294967296/(n.val*4294967296)),true⟩:=by
    simp only [zY,zdJ,Tr.get,o1,d2,Bool.not_true,cond_false]
    rw [wi (n:= -x.val*4294967296/(n.val*4294967296)) (by omega) (by omega)]
   refine ⟨_,_,d1,d3,?_,?_,?_⟩
   ·rw [wi (by omega) (by omega)];omega
   ·rw [wi (by omega) (by omega),wi (by omega) (by omega)];omega
   ·rw [wi (by omega) (by omega)];omega)
 rw [e];exact h
theorem zHn {x y:I64} (hx: -2147483648<=x.val/\x.val<=2147483648) (hy:0<=y.val/\y.val<=8589934592):
  ∃d u,zT x y=⟨d,true⟩/\zaf x y=⟨u,true⟩ /\ -4294967296<=d.val/\d.val<=u.val/\u.val<=4294967296:=by
 have h1:x.val*y.val<=2147483648*8589934592:=by
  by_cases h:0<=x.val
  ·exact Int.mul_le_mul hx.2 hy.2 hy.1 (by decide)
  ·have:=Int.mul_nonneg (show 0 <= -x.val by omega) hy.1
   rw [Int.neg_mul] at this;omega
 have h2: -(2147483648*8589934592)<=x.val*y.val:=by
  by_cases h:0<=x.val
  ·have:=Int.mul_nonneg h hy.1;omega
  ·have:=Int.mul_le_mul (a:= -x.val) (b:=y.val) (c:=2147483648) (d:=8589934592) (by omega) hy.2 hy.1 (by decide)
   rw [Int.neg_mul] at this;omega
 have e1:=zj2 (a:=x) (b:=y) (ok3 (by omega)) (ok3 (by omega)) (by omega)
 have e2:=zxj (a:=x) (b:=y) (ok3 (by omega)) (ok3 (by omega)) (by omega)
 refine ⟨_,_,e1,e2,?_,?_,?_⟩
 ·rw [wi (by omega) (by omega)];omega
 ·rw [wi (by omega) (by omega),wi (by omega) (by omega)];omega
 ·rw [wi (by omega) (by omega)];omega
def In02 (a:Iv):Prop:=0<=a.lo.val/\a.lo.val<=a.hi.val/\a.hi.val<=8589934592
def InH (a:Iv):Prop:= -2147483648<=a.lo.val/\a.lo.val<=a.hi.val/\a.hi.val<=2147483648
theorem In02.ok {a:Iv} (h:In02 a):ze a=true:=(zbC a).2 (by unfold In02 at h;omega)
theorem InH.ok {a:Iv} (h:InH a):ze a=true:=(zbC a).2 (by unfold InH at h;omega)
theorem mulS {a b:Iv} (ha:InH a) (hb:In02 b):InR (zz a b):=by
 have h1:=ha;have h2:=hb
 unfold InH at h1;unfold In02 at h2
 obtain ⟨lo,hi,e,h⟩:=zyS (L:= -4294967296) (H:=4294967296) ha.ok hb.ok (by decide) (by decide) (fun x y hx hy=>by
  obtain ⟨d,u,k1,k2,k3,k4,k5⟩:=zHn (x:=x) (y:=y) (by rcases hx with rfl|rfl<;>omega) (by rcases hy with rfl|rfl<;>omega)
  exact ⟨d,u,k1,k2,k3,k4,k5⟩)
 rw [e];exact h
theorem zF7:zaa=⟨⟨4294967296,rfl⟩,⟨4294967296,rfl⟩⟩:=by rw [<- zp2,zmR (by decide)];rfl
theorem addS {a:Iv} (ha:InR a):In02 (zH zaa a):=by
 have h1:=ha
 unfold InR at h1
 have o1:ze ⟨⟨4294967296,rfl⟩,⟨4294967296,rfl⟩⟩=true:=(zbC _).2 (by decide)
 rw [zF7]
 simp only [zH,ze0,Tr.get,o1,ha.ok,Bool.not_true,cond_false]
 have k1:(Rng.w .i64 (4294967296+a.lo.val)).val=4294967296+a.lo.val:=wi (by omega) (by omega)
 have k2:(Rng.w .i64 (4294967296+a.hi.val)).val=4294967296+a.hi.val:=wi (by omega) (by omega)
 rw [zb3 (by rw [k1,k2];omega)]
 unfold In02
 simp only [k1,k2]
 omega
noncomputable def expS (r:Iv) (n:I64) (p:Iv):Iv:=zH zaa (zO (zz r p) (zy n))
theorem zKS {r p:Iv} {n:I64} (hr:InH r) (hp:In02 p) (hn:1<=n.val/\n.val<=1000000):In02 (expS r n p):=addS (divS (mulS hr hp) hn)
theorem zK4:In02 zaa:=by rw [zF7];unfold In02;decide
noncomputable def expP (r:Iv):Iv:=expS r ⟨1,rfl⟩ (expS r ⟨2,rfl⟩ (expS r ⟨3,rfl⟩ (expS r ⟨4,rfl⟩ (expS r ⟨5,rfl⟩ (expS r ⟨6,rfl⟩ (expS r ⟨7,rfl⟩ (expS r ⟨8,rfl⟩ (expS r ⟨9,rfl⟩ zaa))))))))
theorem zDw {r:Iv} (hr:InH r):In02 (expP r):=by
 unfold expP
 repeat' (first|exact zK4|refine zKS hr ?_ (by decide))
theorem zzC {p:Iv} (h:In02 p):zaT p ⟨1,rfl⟩=⟨.w .i64 (p.lo.val-1),.w .i64 (p.hi.val+1)⟩/\(Rng.w .i64 (p.lo.val-1)).val=p.lo.val-1/\(Rng.w .i64 (p.hi.val+1)).val=p.hi.val+1:=by
 have h1:=h
 unfold In02 at h1
 have k1:(Rng.w .i64 (p.lo.val-1)).val=p.lo.val-1:=wi (by omega) (by omega)
 have k2:(Rng.w .i64 (p.hi.val+1)).val=p.hi.val+1:=wi (by omega) (by omega)
 refine ⟨?_,k1,k2⟩
 simp only [zaT,zhC,Tr.get,h.ok,Bool.not_true,cond_false]
 exact zb3 (by rw [k1,k2];omega)
theorem zAh (k:I64) (h:0<=k.val) (h':k.val<=64):∃x:Iv,(zbD k).opt=some x/\ze x=true/\k.val*2977044472-64<=x.lo.val/\x.lo.val<=x.hi.val/\x.hi.val<=k.val*2977044472+64:=by
 have hi:zX k ⟨(-64),rfl⟩ ⟨64,rfl⟩=true:=by rw [zcO];simp;omega
 have hn:decide (k.val<0)=false:=by simp;omega
 obtain ⟨e1,e2,b1,b2,b3⟩:=zCW h h'
 have v1:(Rng.w .i64 (k.val*1598288580650331957/536870912)).val=k.val*1598288580650331957/536870912:=wi (by omega) (by omega)
 have v2:(Rng.w .i64 ((0-k.val)*1598288580650331958/536870912)).val=(0-k.val)*1598288580650331958/536870912:=wi (by omega) (by omega)
 have v3:(Rng.w .i64 (0-(0-k.val)*1598288580650331958/536870912)).val=0-(0-k.val)*1598288580650331958/536870912:=wi (by omega) (by omega)
 have hok: -1152921504606846976<(Rng.w .i64 (k.val*1598288580650331957/536870912)).val/\(Rng.w .i64 (k.val*1598288580650331957/536870912)).val<=(Rng.w .i64 (0-(Rng.w .i64 ((0-k.val)*1598288580650331958/536870912)).val)).val/\(Rng.w .i64 (0-(Rng.w .i64 ((0-k.val)*1598288580650331958/536870912)).val)).val<1152921504606846976:=by
  rw [v1,v2,v3];omega
 refine ⟨⟨.w .i64 (k.val*1598288580650331957/536870912),.w .i64 (0-(Rng.w .i64 ((0-k.val)*1598288580650331958/536870912)).val)⟩,?_,(zbC _).2 hok,?_,hok.2.1,?_⟩
 ·simp only [zbD,Tr.opt,hi,hn,Bool.not_true,cond_false,e1,e2]
  rw [zb3 hok]
 ·simp only [v1];omega
 ·simp only [v2,v3];omega
theorem zE6 (k:I64) (h: -64<=k.val/\k.val<=64):k.val*2977044472-64<=(zar k).lo.val/\(zar k).lo.val<=(zar k).hi.val/\(zar k).hi.val<=k.val*2977044472+64:=by
 have hi:zX k ⟨(-64),rfl⟩ ⟨64,rfl⟩=true:=by rw [zcO];simpa using h
 by_cases hn:k.val<0
 ·have e1:(Rng.w .i64 (0-k.val)).val=0-k.val:=wi (by omega) (by omega)
  obtain ⟨x,h1,h2,h3,h4,h5⟩:=zAh (.w .i64 (0-k.val)) (by omega) (by omega)
  have g1:zdb (.w .i64 (0-k.val))=true:=by unfold zdb;rw [h1];rfl
  have f1:zg9 (.w .i64 (0-k.val))=x:=Tr.zao h1
  have hd:decide (k.val<0)=true:=by simpa using hn
  have e:zar k=zW x:=Tr.zao (by simp only [zcN,Tr.opt,hi,hd,g1,f1,cond_true,cond_false,Bool.not_true])
  have hb:=(zbC x).1 h2
  rw [e,zln h2]
  simp only
  rw [wi (n:=0-x.hi.val) (by omega) (by omega),wi (n:=0-x.lo.val) (by omega) (by omega)]
  rw [e1] at h3 h5
  omega
 ·obtain ⟨x,h1,h2,h3,h4,h5⟩:=zAh k (by omega) (by omega)
  have hd:decide (k.val<0)=false:=by simpa using hn
  have e:zar k=x:=Tr.zao (by
   simp only [zbD,Tr.opt,hd] at h1
   simp only [zcN,Tr.opt,hd]
   exact h1)
  rw [e]
  exact ⟨h3,h4,h5⟩
theorem atV {n:I64} (h: -1152921504606846976<n.val/\n.val<1152921504606846976):za2 n=⟨n,n⟩:=by
 simp only [za2,zku,Tr.get]
 exact zb3 ⟨h.1,by omega,h.2⟩
theorem zCj {n k:I64} (hn: -98784247808<=n.val/\n.val<=85899345920) (hk:k.val=(2*n.val+2977044472)/5954088944):InH (zac (za2 n) (zar k)):=by
 have hl:=zE6 k (by omega)
 have o1:ze ⟨n,n⟩=true:=(zbC _).2 (by simp only;omega)
 have o2:ze (zar k)=true:=(zbC _).2 (by omega)
 rw [atV (by omega)]
 simp only [zac,zjQ,Tr.get,o1,o2,Bool.not_true,cond_false]
 have k1:(Rng.w .i64 (n.val-(zar k).hi.val)).val=n.val-(zar k).hi.val:=wi (by omega) (by omega)
 have k2:(Rng.w .i64 (n.val-(zar k).lo.val)).val=n.val-(zar k).lo.val:=wi (by omega) (by omega)
 rw [zb3 (by rw [k1,k2];omega)]
 unfold InH
 simp only [k1,k2]
 omega
end Go.Proofs.YtkenfaengphiiaaGreatDoor.Ev
namespace Go.Proofs.YtkenfaengphiiaaGreatDoor.Ev
open Go
noncomputable def dbl (x:Iv):Nat->Iv
 | 0=>x
 | n+1=>dbl (zbW x) n
theorem zys (p q:I64):∀(n m:Nat) (k:I64) (x:Iv),k.val=n->n<=60->(Lf zcZ (n+1+m) ⟨k,x.lo,x.hi,p,q⟩).opt=some ⟨.w .i64 (0:Int),(dbl x n).lo,(dbl x n).hi,p,q⟩:=by
 intro n
 induction n with
 | zero=>
  intro m k x hk _
  have hd:decide (k.val>0)=false:=by simp;omega
  have hz:k= .w .i64 (0:Int):=by apply Rng.ext;rw [wi (by omega) (by omega)];simpa using hk
  rw [show 0+1+m=m+1 by omega]
  simp only [Lf,zcZ,hd,Tr.bind,Tr.opt,cond_false,dbl]
  rw [hz]
 | succ n ih=>
  intro m k x hk hn
  have hd:decide (k.val>0)=true:=by simp;omega
  have e1:(Rng.w .i64 (k.val-1)).val=k.val-1:=wi (by omega) (by omega)
  rw [show n+1+1+m=(n+1+m)+1 by omega]
  have:=ih m (.w .i64 (k.val-1)) (zbW x) (by rw [e1];omega) (by omega)
  simp only [Lf,zcZ,hd,Tr.bind,Tr.opt,cond_true,dbl]
  exact this
theorem zA7 (p q:I64) (m:Nat) (k:I64) (x:Iv) (hk:k.val<=0):(Lf zcZ (m+1) ⟨k,x.lo,x.hi,p,q⟩).opt=some ⟨k,x.lo,x.hi,p,q⟩:=by
 have hd:decide (k.val>0)=false:=by simp;omega
 simp only [Lf,zcZ,hd,Tr.bind,Tr.opt,cond_false]
theorem zAF (x:Iv):∀n,dbl x (n+1)=zbW (dbl x n)
 | 0=>rfl
 | n+1=>by rw [dbl,zAF (zbW x) n,dbl]
theorem zHX {x:Iv} (hx: -1<=x.lo.val/\x.lo.val<=x.hi.val/\x.hi.val<=8589934593):∀j:Nat,j<=29->dbl x j=zab (.w .i64 (x.lo.val*2^j)) (.w .i64 (x.hi.val*2^j)):=by
 intro j
 induction j with
 | zero=>
  intro _
  have h1:(Rng.w .i64 (x.lo.val*2^0)).val=x.lo.val:=by rw [wi (by omega) (by omega)];omega
  have h2:(Rng.w .i64 (x.hi.val*2^0)).val=x.hi.val:=by rw [wi (by omega) (by omega)];omega
  rw [zb3 (by rw [h1,h2];omega)]
  have e1:Rng.w .i64 (x.lo.val*2^0)=x.lo:=Rng.ext h1
  have e2:Rng.w .i64 (x.hi.val*2^0)=x.hi:=Rng.ext h2
  rw [e1,e2];rfl
 | succ j ih=>
  intro hj
  rw [zAF,ih (by omega),zr5]
  have hp:(2:Int)^(j+1)=2^j*2:=Int.pow_succ ..
  have hp1:(1:Int)<=2^j:=Int.add_one_le_of_lt (Int.pow_pos (show (0:Int)<2 by decide))
  have hp2:(2:Int)^j<=268435456:=by
   have:j=0\/j=1\/j=2\/j=3\/j=4\/j=5\/j=6\/j=7\/j=8\/j=9\/j=10\/j=11\/j=12\/j=13\/j=14\/j=15\/j=16\/j=17\/j=18\/j=19\/j=20\/j=21\/j=22\/j=23\/j=24\/j=25\/j=26\/j=27\/j=28:=by omega
   rcases this with rfl|rfl|rfl|rfl|rfl|rfl|rfl|rfl|rfl|rfl|rfl|rfl|rfl|rfl|rfl|rfl|rfl|rfl|rfl|rfl|rfl|rfl|rfl|rfl|rfl|rfl|rfl|rfl|rfl<;>decide
  generalize (2:Int)^j=t at hp hp1 hp2
  rw [hp]
  have l1: -t<=x.lo.val*t:=by
   have:=Int.mul_le_mul_of_nonneg_right (show (-1:Int)<=x.lo.val by omega) (show 0<=t by omega)
   omega
  have l2:x.lo.val*t<=x.hi.val*t:=Int.mul_le_mul_of_nonneg_right hx.2.1 (by omega)
  have l3:x.hi.val*t<=8589934593*t:=Int.mul_le_mul_of_nonneg_right hx.2.2 (by omega)
  have e1:x.lo.val*(t*2)=x.lo.val*t*2:=by rw [Int.mul_assoc]
  have e2:x.hi.val*(t*2)=x.hi.val*t*2:=by rw [Int.mul_assoc]
  rw [e1,e2]
  generalize x.lo.val*t=a at *
  generalize x.hi.val*t=b at *
  have v1:(Rng.w .i64 a).val=a:=wi (by omega) (by omega)
  have v2:(Rng.w .i64 b).val=b:=wi (by omega) (by omega)
  have v3:(Rng.w .i64 (a*2)).val=a*2:=wi (by omega) (by omega)
  have v4:(Rng.w .i64 (b*2)).val=b*2:=wi (by omega) (by omega)
  by_cases hb:b<1152921504606846976
  ·have hm: -1152921504606846976<(Rng.w .i64 a).val/\(Rng.w .i64 a).val<=(Rng.w .i64 b).val/\(Rng.w .i64 b).val<1152921504606846976:=by rw [v1,v2];omega
   rw [zb3 hm]
   have ho:ze ⟨.w .i64 a,.w .i64 b⟩=true:=(zbC _).2 hm
   simp only [zbG,zgJ,zH,ze0,Tr.get,ho,Bool.not_true,cond_false,v1,v2]
   rw [show 2*a=a*2 by omega,show 2*b=b*2 by omega]
  ·rw [zii (by rw [v1,v2];omega),zii (by rw [v3,v4];omega)]
   simp only [zbG,zgJ,zH,ze0,Tr.get,zch,Bool.not_false,ctr]
theorem zG4 {k:Int} (h:0<=k) (h':k<=60):(min k.toNat 64)=k.toNat:=by omega
theorem fdiv_one (n:Int):n.fdiv 1=n:=by rw [Int.fdiv_eq_ediv_of_nonneg _ (by decide)];omega
theorem zCg {x:Iv} {k:I64} (hx: -1<=x.lo.val/\x.lo.val<=x.hi.val/\x.hi.val<=8589934593) (hk: -40<=k.val/\k.val<=29):(zdl x k).opt=some (zbE x k):=by
 by_cases h0:0<=k.val
 ·obtain ⟨n,hn⟩:=Int.eq_ofNat_of_zero_le h0
  have a1:=zys ⟨0,rfl⟩ ⟨0,rfl⟩ n (69-n) k x hn (by omega)
  rw [show n+1+(69-n)=70 by omega,zHX hx n (by omega)] at a1
  have g1:zeF ⟨k,x.lo,x.hi,⟨0,rfl⟩,⟨0,rfl⟩⟩=true:=by unfold zeF;rw [a1];rfl
  have l1:zhT ⟨k,x.lo,x.hi,⟨0,rfl⟩,⟨0,rfl⟩⟩=_:=Tr.zao a1
  have hd:decide (k.val>=0)=true:=by simpa using h0
  have hu:(Rng.w .u64 k.val).val=k.val:=wu (by omega) (by omega)
  have hs:zbE x k=zab (.w .i64 (x.lo.val*2^n)) (.w .i64 (x.hi.val*2^n)):=by
   simp only [zbE,zfH,Tr.get,hd,ctr,hu,zG4 h0 (by omega:k.val<=60)]
   rw [hn];rfl
  rw [hs]
  have z0:(Rng.w .i64 (0-(Rng.w .i64 (0:Int)).val)).val=0:=by rw [wi (n:=0) (by decide) (by decide),wi (by omega) (by omega)];rfl
  have zd:decide ((0:Int)<0)=false:=by decide
  simp only [zdl,Tr.opt,g1,l1,ctr,z0,zd,cfl,znw]
  generalize hmk:zab (.w .i64 (x.lo.val*2^n)) (.w .i64 (x.hi.val*2^n))=y
  have hy:ze y=true\/y=zt:=by
   by_cases hm: -1152921504606846976<(Rng.w .i64 (x.lo.val*2^n)).val/\(Rng.w .i64 (x.lo.val*2^n)).val<=(Rng.w .i64 (x.hi.val*2^n)).val/\(Rng.w .i64 (x.hi.val*2^n)).val<1152921504606846976
   ·left;rw [<- hmk,zb3 hm];exact (zbC _).2 hm
   ·right;rw [<- hmk];exact zii hm
  rcases hy with hy|hy
  ·have hb:=(zbC y).1 hy
   have e1:(Rng.w .i64 (y.lo.val.fdiv (2^min (Int.toNat 0) 64)))=y.lo:=by
    apply Rng.ext
    rw [show (2:Int)^min (Int.toNat 0) 64=1 from rfl,fdiv_one,wi (by omega) (by omega)]
   have e2:(Rng.w .i64 (0-(Rng.w .i64 ((Rng.w .i64 (0-y.hi.val)).val.fdiv (2^min (Int.toNat 0) 64))).val))=y.hi:=by
    apply Rng.ext
    rw [show (2:Int)^min (Int.toNat 0) 64=1 from rfl,fdiv_one,wi (n:=0-y.hi.val) (by omega) (by omega),wi (n:=0-y.hi.val) (by omega) (by omega),wi (by omega) (by omega)]
    omega
   simp only [hy,Bool.not_true,cfl,e1,e2]
  ·rw [hy]
   have hw:(⟨zt.lo,zt.hi⟩:Iv)=zt:=rfl
   simp only [hw,zch,Bool.not_false,ctr,zbB]
 ·have a1:=zA7 ⟨0,rfl⟩ ⟨0,rfl⟩ 69 k x (by omega)
  have g1:zeF ⟨k,x.lo,x.hi,⟨0,rfl⟩,⟨0,rfl⟩⟩=true:=by unfold zeF;rw [a1];rfl
  have l1:zhT ⟨k,x.lo,x.hi,⟨0,rfl⟩,⟨0,rfl⟩⟩=_:=Tr.zao a1
  have hd:decide (k.val>=0)=false:=by simp;omega
  have ho:ze ⟨x.lo,x.hi⟩=true:=(zbC _).2 (by simp only;omega)
  have e1:(Rng.w .i64 (0-k.val)).val= -k.val:=by rw [wi (by omega) (by omega)];omega
  have hu:(Rng.w .u64 (-k.val)).val= -k.val:=wu (by omega) (by omega)
  have hd2:decide (-k.val<0)=false:=by simp;omega
  simp only [zdl,Tr.opt,g1,l1,ctr,e1,hd2,cfl,znw,ho,Bool.not_true,zbE,zfH,Tr.get,hd,hu]
  generalize hp:(2:Int)^min (-k.val).toNat 64=t
  have ht:1<=t:=by rw [<- hp];exact Int.add_one_le_of_lt (Int.pow_pos (show (0:Int)<2 by decide))
  have f1:x.lo.val.fdiv t=x.lo.val/t:=Int.fdiv_eq_ediv_of_nonneg _ (by omega)
  have n1:(Rng.w .i64 (0-x.hi.val)).val= -x.hi.val:=by rw [wi (by omega) (by omega)];omega
  have f2:(-x.hi.val).fdiv t= -x.hi.val/t:=Int.fdiv_eq_ediv_of_nonneg _ (by omega)
  have b1:=zlX (M:=8589934593) (N:=x.lo.val) (d:=t) (by omega) (by omega) (by omega)
  have b2:=zlX (M:=8589934593) (N:= -x.hi.val) (d:=t) (by omega) (by omega) (by omega)
  have b3: -x.hi.val/t <= -(x.lo.val/t):=by
   have c1:=Int.mul_ediv_add_emod x.lo.val t
   have c2:=Int.emod_nonneg x.lo.val (show t≠0 by omega)
   have hh: -x.hi.val<=t * -(x.lo.val/t):=by rw [Int.mul_neg];omega
   have h5: -x.hi.val/t<=(t * -(x.lo.val/t))/t:=Int.ediv_le_ediv (by omega) hh
   rw [Int.mul_ediv_cancel_left _ (by omega)] at h5
   exact h5
  rw [f1,n1,f2]
  have v1:(Rng.w .i64 (x.lo.val/t)).val=x.lo.val/t:=wi (by omega) (by omega)
  have v2:(Rng.w .i64 (-x.hi.val/t)).val= -x.hi.val/t:=wi (by omega) (by omega)
  have v3:(Rng.w .i64 (0-(Rng.w .i64 (-x.hi.val/t)).val)).val= -(-x.hi.val/t):=by rw [v2,wi (by omega) (by omega)];omega
  rw [zb3 (by rw [v1,v3];omega)]
theorem zAw {n k:I64} (hn: -98784247808<=n.val/\n.val<=85899345920) (hk:k.val=(2*n.val+2977044472)/5954088944):
  (zdl (zaT (expP (zac (za2 n) (zar k))) ⟨1,rfl⟩) k).opt=some (zbE (zaT (expP (zac (za2 n) (zar k))) ⟨1,rfl⟩) k):=by
 have h1:=zDw (zCj hn hk)
 obtain ⟨h2,h3,h4⟩:=zzC h1
 unfold In02 at h1
 rw [h2]
 refine zCg ?_ (by omega)
 simp only [h3,h4]
 omega
theorem zGh (n:I64):(ziZ n).opt=some (zc4 n):=by
 simp only [ziZ,Tr.opt,zc4,zhn,Tr.get,zkR,zbB]
 cases h0:zG n
 ·simp only [Bool.not_false,ctr]
 by_cases h1:n.val>85899345920
 ·simp only [Bool.not_true,cfl,h1,decide_true,ctr]
 by_cases h2:n.val < -98784247808
 ·simp only [Bool.not_true,cfl,h1,h2,decide_true,decide_false,ctr]
 have e1:(Rng.w .i64 (2*n.val)).val=2*n.val:=wi (by omega) (by omega)
 have e2:(Rng.w .i64 (2*n.val+2977044472)).val=2*n.val+2977044472:=wi (by omega) (by omega)
 simp only [Bool.not_true,cfl,h1,h2,decide_false,e1,e2]
 generalize hN:2*n.val+2977044472=N
 have t1:=Int.tdiv_eq_ediv (a:=N) (b:=5954088944)
 have t2:=Int.tmod_eq_emod (a:=N) (b:=5954088944)
 generalize hq:N.tdiv 5954088944=q at *
 generalize hm:N.tmod 5954088944=r at *
 have hqr:N=5954088944*q+r:=by rw [<- hq,<- hm];exact (Int.mul_tdiv_add_tmod N 5954088944).symm
 have hr: -5954088944<r/\r<5954088944/\(0<=N->0<=r)/\(N<0->r<=0):=by
  rw [<- hm]
  refine ⟨?_,?_,?_,?_⟩
  ·have:=Int.lt_tmod_of_pos N (show (0:Int)<5954088944 by decide);omega
  ·have:=Int.tmod_lt_of_pos N (show (0:Int)<5954088944 by decide);omega
  ·exact fun h=>Int.tmod_nonneg _ h
  ·intro h
   have:=Int.neg_tmod (-N) 5954088944
   have h3:=Int.tmod_nonneg (a:= -N) 5954088944 (by omega)
   rw [Int.neg_neg] at this
   omega
 have hqb: -40<=q/\q<=40:=by omega
 have v1:(Rng.w .i64 q).val=q:=wi (by omega) (by omega)
 have v2:(Rng.w .i64 (q*2)).val=q*2:=wi (by omega) (by omega)
 have v3:(Rng.w .i64 (q*2*2977044472)).val=q*5954088944:=by rw [wi (by omega) (by omega)];omega
 have v4:(Rng.w .i64 r).val=r:=wi (by omega) (by omega)
 have v5:(Rng.w .i64 (q-1)).val=q-1:=wi (by omega) (by omega)
 have hat:zc6 n=za2 n:=by rw [at_eq];exact (zAk (n:=n) (by omega)).symm
 simp only [v1,v2,v3,v4,hat,sub_eq,add_eq,zp3,zmi,zdZ,zrQ,zuE,zp2]
 by_cases hlt:r<0
 ·have d1:decide (q*5954088944>N)=true:=by simp;omega
  have d2:decide (r<0)=true:=by simpa using hlt
  have ex:=zAw (n:=n) (k:= .w .i64 (q-1)) (by omega) (by rw [v5];omega)
  simp only [d1,d2,ctr]
  simp only [expP,expS,zp2] at ex
  have hG:zhW _ _=true:=show (zdl _ _).opt.isSome=true by rw [ex];rfl
  have hF:zh1 _ _=_:=Tr.zao ex
  rw [hG,hF]
  rfl
 ·have d1:decide (q*5954088944>N)=false:=by simp;omega
  have d2:decide (r<0)=false:=by simpa using hlt
  have ex:=zAw (n:=n) (k:= .w .i64 q) (by omega) (by rw [v1];omega)
  simp only [d1,d2,cfl]
  simp only [expP,expS,zp2] at ex
  have hG:zhW _ _=true:=show (zdl _ _).opt.isSome=true by rw [ex];rfl
  have hF:zh1 _ _=_:=Tr.zao ex
  rw [hG,hF]
  rfl
theorem zyg (n:I64):(ziZ n).opt=some (zjb n):=zhN (zGh n)
theorem zFj (n:I64):zjb n=zc4 n:=Tr.zao (zGh n)
end Go.Proofs.YtkenfaengphiiaaGreatDoor.Ev
namespace Go.Proofs.YtkenfaengphiiaaGreatDoor.Ev
open Go Go.RowKit
set_option maxRecDepth 100000
section
variable [Amb]
noncomputable def zv9:Ent Tryz.prog:= .of1 zKr B117 (fun _=>true) zjb fun a0 _=>(zw2 a0).trans (zyg a0)
noncomputable def B97:Bod Tryz.prog:=⟨97,Tryz.f97,Tryz.f97.body.getD .skip,Tryz.func97,by kernel_rfl,by kernel_rfl,zav.no _ _⟩
noncomputable def Tb97:Tb Tryz.prog:= {T:= [Y2,Y34],mix:=mix,Es:= [zzy,zdP,zjd,zoX,zhA,zcW,zkp,zoY],Bs:= [],d:=1}
noncomputable def zeA (a0:I64):Tr (Iv):=
 .br (decide (a0.val<=35184372088832)) (.leaf (zkl (zae (zc6 a0) (zht (zae (zeo (zc6 a0)) (zB ⟨1,rfl⟩)))))) (.leaf (zae (zae (zdA ⟨1,rfl⟩) (zhw a0)) ⟨⟨0,rfl⟩,⟨16,rfl⟩⟩))
theorem zrA (a0:I64):Tb97.run B97 [enc a0] (Iv)=(zeA a0).opt:=by kernel_rfl
noncomputable def zcE:I64->Iv:=fun a0=>(zeA a0).get
theorem zq6 (a0:I64):(zeA a0).opt=some (zcE a0):=Tr.z8 (by kernel_rfl)
noncomputable def zsu:Ent Tryz.prog:= .of1 Tb97 B97 (fun _=>true) zcE fun a0 _=>(zrA a0).trans (zq6 a0)
noncomputable def Y47:TyE Tryz.prog:=⟨47,1,.func,[.nilf],false,by kernel_rfl,by kernel_rfl,by kernel_rfl,by kernel_rfl,by kernel_rfl,by kernel_rfl⟩
noncomputable def B148:Bod Tryz.prog:=⟨148,Tryz.f148,Tryz.f148.body.getD .skip,Tryz.func148,by kernel_rfl,by kernel_rfl,zav.no _ _⟩
noncomputable def zp8:Tb Tryz.prog:= {T:= [Y2,Y34,Y47],mix:=mix,Es:= [zhj,zsu],Bs:= [],d:=1}
noncomputable def zcp (a0:I64) (d0:zEh 97):Tr (Iv):=
 .br (decide (a0.val<0)) (.leaf (zdf (zcE (Rng.w .i64 (0-a0.val))))) (.leaf (zcE a0))
theorem znP (a0:I64) (d0:zEh 97):zDS zp8 B148 [enc a0,.ptr 0 0] [(0,Cap.ec d0)] 1 (Iv)=(zcp a0 d0).opt:=by kernel_rfl
noncomputable def zaN:I64->zEh 97->Iv:=fun a0 d0=>(zcp a0 d0).get
theorem znF (a0:I64) (d0:zEh 97):(zcp a0 d0).opt=some (zaN a0 d0):=Tr.z8 (by kernel_rfl)
noncomputable def znZ:Ent Tryz.prog:= .cap1 zp8 B148 (fun _ _=>true) zaN fun a0 d0 _=>(znP a0 d0).trans (znF a0 d0)
noncomputable def B96:Bod Tryz.prog:=⟨96,Tryz.f96,Tryz.f96.body.getD .skip,Tryz.func96,by kernel_rfl,by kernel_rfl,zav.no _ _⟩
noncomputable def B40:Bod Tryz.prog:=⟨40,Tryz.f40,Tryz.f40.body.getD .skip,Tryz.func40,by kernel_rfl,by kernel_rfl,zav.no _ _⟩
noncomputable def Tb40:Tb Tryz.prog:= {T:= [Y2,Y34],mix:=mix,Es:= [zaA,zb0,zcg,zbI,znZ],Bs:= [B95,B96],d:=8}
noncomputable def zgf (a0:Iv):Tr (Iv):=
 .br (zas a0) (.leaf zL) (let c3:=zaN a0.lo ⟨⟩;let c4:=zaN a0.hi ⟨⟩;.br (!(za8 c3 c4)) (.leaf zL) (.leaf (zaR c3.lo c4.hi true)))
theorem ztx (a0:Iv):zzH Tb40 B40 [enc a0] [0,1,2,3] (Iv)=(zgf a0).opt:=by kernel_rfl
theorem ztw (a0:Iv):zzH Tb40 B40 [enc a0] [1,0,2,3] (Iv)=(zgf a0).opt:=by kernel_rfl
noncomputable def zh7:Iv->Iv:=fun a0=>(zgf a0).get
noncomputable def B114:Bod Tryz.prog:=⟨114,Tryz.f114,Tryz.f114.body.getD .skip,Tryz.func114,by kernel_rfl,by kernel_rfl,zav.no _ _⟩
noncomputable def zKu:Tb Tryz.prog:= {T:= [Y2,Y34],mix:=mix,Es:= [zxU,zf6,zv9],Bs:= [],d:=1}
noncomputable def ziI (a0:I64):Tr (Iv):=
 .leaf (zja (zaJ (zjb a0) (zjb (Rng.w .i64 (0-a0.val)))))
theorem ztm (a0:I64):zKu.run B114 [enc a0] (Iv)=(ziI a0).opt:=by kernel_rfl
noncomputable def zgV:I64->Iv:=fun a0=>(ziI a0).get
theorem zsQ (a0:I64):(ziI a0).opt=some (zgV a0):=Tr.z8 (by kernel_rfl)
noncomputable def ztO:Ent Tryz.prog:= .of1 zKu B114 (fun _=>true) zgV fun a0 _=>(ztm a0).trans (zsQ a0)
noncomputable def B44:Bod Tryz.prog:=⟨44,Tryz.f44,Tryz.f44.body.getD .skip,Tryz.func44,by kernel_rfl,by kernel_rfl,zav.no _ _⟩
noncomputable def Tb44:Tb Tryz.prog:= {T:= [Y2,Y34],mix:=mix,Es:= [zaA,zb0,zcg,zbI,ztO],Bs:= [B95],d:=8}
noncomputable def zkC (a0:Iv):Tr (Iv):=
 .br (zas a0) (.leaf zL) (let c3:=zgV a0.lo;let c4:=zgV a0.hi;.br (!(za8 c3 c4)) (.leaf zL) (.leaf (zaR c3.lo c4.hi true)))
theorem zwU (a0:Iv):Tb44.run B44 [enc a0] (Iv)=(zkC a0).opt:=by kernel_rfl
noncomputable def zhu:Iv->Iv:=fun a0=>(zkC a0).get
theorem zwm (a0:Iv):(zkC a0).opt=some (zhu a0):=Tr.z8 (by kernel_rfl)
noncomputable def zxR:Ent Tryz.prog:= .of1 Tb44 B44 (fun _=>true) zhu fun a0 _=>(zwU a0).trans (zwm a0)
noncomputable def zeu (a0:I64):Tr (Iv):=
 .br (decide (a0.val<0)) (.bad) (.br (decide (a0.val<=35184372088832)) (.leaf (zin (zH (za2 a0) (zcs (zH (zbg (za2 a0)) zaa))))) (.leaf (zH (zH (zar ⟨1,rfl⟩) (zec a0)) ⟨⟨0,rfl⟩,⟨16,rfl⟩⟩)))
noncomputable def zlu:I64->Iv:=fun a0=>(zeu a0).get
noncomputable def zim:I64->Bool:=fun a0=>(zeu a0).opt.isSome
noncomputable def zfI (a0:I64):Tr (Iv):=
 .br (decide (a0.val<0)) (let c1:=(Rng.w .i64 (0-a0.val));.br (zim c1) (.leaf (zW (zlu c1))) (.bad)) (.br (decide (a0.val<=35184372088832)) (.leaf (zin (zH (za2 a0) (zcs (zH (zbg (za2 a0)) zaa))))) (.leaf (zH (zH (zar ⟨1,rfl⟩) (zec a0)) ⟨⟨0,rfl⟩,⟨16,rfl⟩⟩)))
noncomputable def zeG:I64->Iv:=fun a0=>(zfI a0).get
noncomputable def zcd:I64->Bool:=fun a0=>(zfI a0).opt.isSome
noncomputable def zju (a0:Iv):Tr (Iv):=
 .br (!(ze a0)) (.leaf zt) (.br (zcd a0.lo) (.br (zcd a0.hi) (.leaf (zds (zeG a0.lo) (zeG a0.hi))) (.bad)) (.bad))
noncomputable def zbY:Iv->Iv:=fun a0=>(zju a0).get
noncomputable def zkX (a0:I64):Tr (Iv):=
 .leaf (zi8 (zac (zc4 a0) (zc4 (Rng.w .i64 (0-a0.val)))))
noncomputable def zgS:I64->Iv:=fun a0=>(zkX a0).get
noncomputable def zmD (a0:Iv):Tr (Iv):=
 .br (!(ze a0)) (.leaf zt) (.leaf (zds (zgS a0.lo) (zgS a0.hi)))
noncomputable def zhq:Iv->Iv:=fun a0=>(zmD a0).get
end
end Go.Proofs.YtkenfaengphiiaaGreatDoor.Ev
namespace Go.Proofs.YtkenfaengphiiaaGreatDoor.Ev
open Go
theorem zGn (n:I64) (h:0<=n.val/\n.val<1152921504606846976):(zeu n).opt=some (zcE n):=by
 have hn:decide (n.val<0)=false:=by simp;omega
 simp only [zeu,Tr.opt,zcE,zeA,Tr.get,hn,cond_false,zCY,zvB,zrQ,add_eq,zu1,zpZ,zdZ,zp2,at_eq]
 rw [zAk (n:=n) (by omega)]
 cases decide (n.val<=35184372088832)<;>rfl
theorem zvV (n:I64) (h: -1152921504606846976<n.val/\n.val<1152921504606846976):(zfI n).opt=some (zaN n ⟨⟩):=by
 by_cases hn:n.val<0
 ·have e1:(Rng.w .i64 (0-n.val)).val=0-n.val:=wi (by omega) (by omega)
  have a1:=zGn (.w .i64 (0-n.val)) (by omega)
  have g1:zim (.w .i64 (0-n.val))=true:=by unfold zim;rw [a1];rfl
  have f1:zlu (.w .i64 (0-n.val))=_:=Tr.zao a1
  have hd:decide (n.val<0)=true:=by simpa using hn
  simp only [zfI,Tr.opt,zaN,zcp,Tr.get,hd,cond_true,g1,f1,neg_eq]
 ·have a1:=zGn n (by omega)
  have hd:decide (n.val<0)=false:=by simpa using hn
  simp only [zeu,Tr.opt,hd,cond_false] at a1
  simp only [zfI,Tr.opt,zaN,zcp,Tr.get,hd,cond_false]
  exact a1
theorem zAP (x:Iv):∃y,(zju x).opt=some y/\(zgf x).opt=some y:=by
 simp only [zju,zgf,Tr.opt,znw,zl3,zbB,zeC]
 cases h:ze x
 ·exact ⟨_,rfl,rfl⟩
 have hb:=(zbC x).1 h
 have a1:=zvV x.lo (by omega)
 have a2:=zvV x.hi (by omega)
 have g1:zcd x.lo=true:=by unfold zcd;rw [a1];rfl
 have g2:zcd x.hi=true:=by unfold zcd;rw [a2];rfl
 have f1:zeG x.lo=_:=Tr.zao a1
 have f2:zeG x.hi=_:=Tr.zao a2
 simp only [Bool.not_true,cond_false,cond_true,g1,g2,f1,f2,zds,zkY,Tr.get]
 cases ze (zaN x.lo ⟨⟩)<;>cases ze (zaN x.hi ⟨⟩)<;>exact ⟨_,rfl,rfl⟩
theorem zD4 (x:Iv):zh7 x=zbY x:=by
 obtain ⟨y,h1,h2⟩:=zAP x
 exact (Tr.zao h2).trans (Tr.zao h1).symm
theorem zn7 (x:Iv):(zgf x).opt=some (zh7 x):=by obtain ⟨y,_,h1⟩:=zAP x;exact zhN h1
theorem zEA (x:Iv):zhu x=zhq x:=by
 simp only [zhu,zkC,zhq,zmD,Tr.get,znw,zl3,zbB,zeC,ctr,zzb,zgV,ziI,zgS,zkX,zFj,zFe,sub_eq]
end Go.Proofs.YtkenfaengphiiaaGreatDoor.Ev
namespace Go.Proofs.YtkenfaengphiiaaGreatDoor.Ev
open Go Go.RowKit
set_option maxRecDepth 100000
section
variable [Amb]
noncomputable def ztS:Ent Tryz.prog:= .two1 Tb40 B40 (fun _=>true) zh7 0 [1,2,3] 1 [0,2,3] (by unfold zuV;kernel_rfl) (by kernel_rfl) (by kernel_rfl) (by kernel_rfl) (fun a0=>by kernel_rfl) (fun a0 _=>(ztx a0).trans (zn7 a0)) (fun a0 _=>(ztw a0).trans (zn7 a0))
noncomputable def B30:Bod Tryz.prog:=⟨30,Tryz.f30,Tryz.f30.body.getD .skip,Tryz.func30,by kernel_rfl,by kernel_rfl,zav.no _ _⟩
noncomputable def Tb30:Tb Tryz.prog:= {T:= [],mix:=mix,Es:= [za1],Bs:= [],d:=1}
noncomputable def zdg (a0:I64):Tr (Bool):=
 .leaf (zaw a0 ⟨1,rfl⟩ ⟨4,rfl⟩)
theorem znl (a0:I64):Tb30.run B30 [enc a0] (Bool)=(zdg a0).opt:=by kernel_rfl
noncomputable def zbK:I64->Bool:=fun a0=>(zdg a0).get
theorem znj (a0:I64):(zdg a0).opt=some (zbK a0):=Tr.z8 (by kernel_rfl)
noncomputable def zjr:Ent Tryz.prog:= .of1 Tb30 B30 (fun _=>true) zbK fun a0 _=>(znl a0).trans (znj a0)
noncomputable def Y36:TyE Tryz.prog:=⟨36,4,(.struct [(0,34,2),(2,34,2)]),[.i64 ⟨0,rfl⟩,.i64 ⟨0,rfl⟩,.i64 ⟨0,rfl⟩,.i64 ⟨0,rfl⟩],false,by kernel_rfl,by kernel_rfl,by kernel_rfl,by kernel_rfl,by kernel_rfl,by kernel_rfl⟩
noncomputable def B35:Bod Tryz.prog:=⟨35,Tryz.f35,Tryz.f35.body.getD .skip,Tryz.func35,by kernel_rfl,by kernel_rfl,zav.no _ _⟩
noncomputable def Tb35:Tb Tryz.prog:= {T:= [Y2,Y34,Y36],mix:=mix,Es:= [zb0],Bs:= [],d:=1}
noncomputable def zjx (a0:Iv) (a1:Iv):Tr (T2 zfV I64):=
 .br (!(za8 a0 a1)) (.leaf ⟨⟨⟨⟨0,rfl⟩,⟨0,rfl⟩⟩,⟨⟨0,rfl⟩,⟨0,rfl⟩⟩⟩,⟨9,rfl⟩⟩) (.leaf ⟨⟨a0,a1⟩,⟨0,rfl⟩⟩)
theorem zvj (a0:Iv) (a1:Iv):Tb35.run B35 [enc a0,enc a1] (T2 zfV I64)=(zjx a0 a1).opt:=by kernel_rfl
noncomputable def zee:Iv->Iv->T2 zfV I64:=fun a0 a1=>(zjx a0 a1).get
theorem zuN (a0:Iv) (a1:Iv):(zjx a0 a1).opt=some (zee a0 a1):=Tr.z8 (by kernel_rfl)
noncomputable def zv1:Ent Tryz.prog:= .of2 Tb35 B35 (fun _ _=>true) zee fun a0 a1 _=>(zvj a0 a1).trans (zuN a0 a1)
noncomputable def B8:Bod Tryz.prog:=⟨8,Tryz.f8,Tryz.f8.body.getD .skip,Tryz.func8,by kernel_rfl,by kernel_rfl,zav.no _ _⟩
noncomputable def Tb8:Tb Tryz.prog:= {T:= [Y2,Y25,Y27,Y34,Y36],mix:=mix,Es:= [zcK,zgv,zjr,ztP,zxT,zsr,zeN,zv1,zf7,zeq,zzx,zha,ztS,zzw,zv2],Bs:= [],d:=1}
noncomputable def zdS (a0:Proj) (a1:zbk):Tr (T2 zfV I64):=
 .br (!(zZ a0)) (.leaf ⟨⟨⟨⟨0,rfl⟩,⟨0,rfl⟩⟩,⟨⟨0,rfl⟩,⟨0,rfl⟩⟩⟩,⟨1,rfl⟩⟩) (.br (!(zbH a1)) (.leaf ⟨⟨⟨⟨0,rfl⟩,⟨0,rfl⟩⟩,⟨⟨0,rfl⟩,⟨0,rfl⟩⟩⟩,⟨1,rfl⟩⟩) (.br (!(zbK a0.kind)) (.leaf ⟨⟨⟨⟨0,rfl⟩,⟨0,rfl⟩⟩,⟨⟨0,rfl⟩,⟨0,rfl⟩⟩⟩,⟨1,rfl⟩⟩) (let c4:=zgW a0 a1;let c5:=zi9 a1;let c7:=zit (zcH a0.lat1);.br (a0.kind.val==1) (let c9:=zee (zV c4 c7) c5;.leaf ⟨c9.a,c9.b⟩) (.br (a0.kind.val==3) (let c13:=zee (zV c4 c7) (zat (zkk c5) c7);.leaf ⟨c13.a,c13.b⟩) (.br (a0.kind.val==4) (let c20:=zee c4 (zV (zaj ⟨5,rfl⟩ ⟨4,rfl⟩) (zh7 (zbQ (zV (zaj ⟨4,rfl⟩ ⟨5,rfl⟩) c5))));.leaf ⟨c20.a,c20.b⟩) (.br (zh2 a1) (.leaf ⟨⟨⟨⟨0,rfl⟩,⟨0,rfl⟩⟩,⟨⟨0,rfl⟩,⟨0,rfl⟩⟩⟩,⟨8,rfl⟩⟩) (let c24:=zee c4 (zh7 (zbQ c5));.leaf ⟨c24.a,c24.b⟩)))))))
theorem zms (a0:Proj) (a1:zbk):Tb8.run B8 [enc a0,enc a1] (T2 zfV I64)=(zdS a0 a1).opt:=by kernel_rfl
noncomputable def zad:Proj->zbk->T2 zfV I64:=fun a0 a1=>(zdS a0 a1).get
theorem zmp (a0:Proj) (a1:zbk):(zdS a0 a1).opt=some (zad a0 a1):=Tr.z8 (by kernel_rfl)
noncomputable def zmA:Ent Tryz.prog:= .of2 Tb8 B8 (fun _ _=>true) zad fun a0 a1 _=>(zms a0 a1).trans (zmp a0 a1)
noncomputable def B120:Bod Tryz.prog:=⟨120,Tryz.f120,Tryz.f120.body.getD .skip,Tryz.func120,by kernel_rfl,by kernel_rfl,zav.no _ _⟩
noncomputable def zKo:Tb Tryz.prog:= {T:= [Y2,Y34],mix:=mix,Es:= [zko],Bs:= [],d:=1}
noncomputable def zfz (a0:Iv) (a1:I64):Tr (Bool):=
 .leaf (zcf a0 ⟨(Rng.w .i64 (0-a1.val)),a1⟩)
theorem zoi (a0:Iv) (a1:I64):zKo.run B120 [enc a0,enc a1] (Bool)=(zfz a0 a1).opt:=by kernel_rfl
noncomputable def zef:Iv->I64->Bool:=fun a0 a1=>(zfz a0 a1).get
theorem zn4 (a0:Iv) (a1:I64):(zfz a0 a1).opt=some (zef a0 a1):=Tr.z8 (by kernel_rfl)
noncomputable def zoT:Ent Tryz.prog:= .of2 zKo B120 (fun _ _=>true) zef fun a0 a1 _=>(zoi a0 a1).trans (zn4 a0 a1)
noncomputable def B123:Bod Tryz.prog:=⟨123,Tryz.f123,Tryz.f123.body.getD .skip,Tryz.func123,by kernel_rfl,by kernel_rfl,zav.no _ _⟩
noncomputable def zKl:Tb Tryz.prog:= {T:= [Y2,Y34],mix:=mix,Es:= [zb0],Bs:= [],d:=1}
noncomputable def zlF (a0:Iv) (a1:Iv):Tr (T3 Iv Iv I64):=
 .br (!(za8 a0 a1)) (.leaf ⟨⟨⟨0,rfl⟩,⟨0,rfl⟩⟩,⟨⟨0,rfl⟩,⟨0,rfl⟩⟩,⟨9,rfl⟩⟩) (.leaf ⟨a0,a1,⟨0,rfl⟩⟩)
theorem zyB (a0:Iv) (a1:Iv):zKl.run B123 [enc a0,enc a1] (T3 Iv Iv I64)=(zlF a0 a1).opt:=by kernel_rfl
noncomputable def zl9:Iv->Iv->T3 Iv Iv I64:=fun a0 a1=>(zlF a0 a1).get
theorem zx4 (a0:Iv) (a1:Iv):(zlF a0 a1).opt=some (zl9 a0 a1):=Tr.z8 (by kernel_rfl)
noncomputable def zzv:Ent Tryz.prog:= .of2 zKl B123 (fun _ _=>true) zl9 fun a0 a1 _=>(zyB a0 a1).trans (zx4 a0 a1)
noncomputable def B48:Bod Tryz.prog:=⟨48,Tryz.f48,Tryz.f48.body.getD .skip,Tryz.func48,by kernel_rfl,by kernel_rfl,zav.no _ _⟩
noncomputable def Tb48:Tb Tryz.prog:= {T:= [Y2,Y34],mix:=mix,Es:= [zeN,zdP,zoT,ztI,ze7,zzv],Bs:= [],d:=1}
noncomputable def ziC (a0:Iv) (a1:Iv) (a2:I64):Tr (T3 Iv Iv I64):=
 .br (!(zef a0 zgT)) (.leaf ⟨⟨⟨0,rfl⟩,⟨0,rfl⟩⟩,⟨⟨0,rfl⟩,⟨0,rfl⟩⟩,⟨8,rfl⟩⟩) (.br (!(zef a1 (zca ⟨2,rfl⟩).hi)) (.leaf ⟨⟨⟨0,rfl⟩,⟨0,rfl⟩⟩,⟨⟨0,rfl⟩,⟨0,rfl⟩⟩,⟨8,rfl⟩⟩) (let c7:=zl9 a0 (zae a1 (zcH a2));.leaf ⟨c7.a,c7.b,c7.c⟩))
theorem ztc (a0:Iv) (a1:Iv) (a2:I64):Tb48.run B48 [enc a0,enc a1,enc a2] (T3 Iv Iv I64)=(ziC a0 a1 a2).opt:=by kernel_rfl
noncomputable def zdx:Iv->Iv->I64->T3 Iv Iv I64:=fun a0 a1 a2=>(ziC a0 a1 a2).get
theorem zsJ (a0:Iv) (a1:Iv) (a2:I64):(ziC a0 a1 a2).opt=some (zdx a0 a1 a2):=Tr.z8 (by kernel_rfl)
noncomputable def ztJ:Ent Tryz.prog:= .of3 Tb48 B48 (fun _ _ _=>true) zdx fun a0 a1 a2 _=>(ztc a0 a1 a2).trans (zsJ a0 a1 a2)
noncomputable def B9:Bod Tryz.prog:=⟨9,Tryz.f9,Tryz.f9.body.getD .skip,Tryz.func9,by kernel_rfl,by kernel_rfl,zav.no _ _⟩
noncomputable def Tb9:Tb Tryz.prog:= {T:= [Y2,Y25,Y34,Y36],mix:=mix,Es:= [zcK,zjr,zsr,zeN,zf7,zeq,zha,zqd,zxR,zko,zhi,zxX,ztJ],Bs:= [],d:=1}
noncomputable def zdR (a0:Proj) (a1:zfV):Tr (T3 Iv Iv I64):=
 .br (!(zZ a0)) (.leaf ⟨⟨⟨0,rfl⟩,⟨0,rfl⟩⟩,⟨⟨0,rfl⟩,⟨0,rfl⟩⟩,⟨1,rfl⟩⟩) (.br (!(zbK a0.kind)) (.leaf ⟨⟨⟨0,rfl⟩,⟨0,rfl⟩⟩,⟨⟨0,rfl⟩,⟨0,rfl⟩⟩,⟨1,rfl⟩⟩) (let c4:=zit (zcH a0.lat1);.br (a0.kind.val==1) (let c6:=zdx a1.y (zat a1.x c4) a0.lon0;.leaf ⟨c6.a,c6.b,c6.c⟩) (.br (a0.kind.val==2) (let c9:=zdx (zeY (zhu a1.y)) a1.x a0.lon0;.leaf ⟨c9.a,c9.b,c9.c⟩) (.br (a0.kind.val==3) (let c10:=zV a1.y c4;.br (!(zcf c10 zdd)) (.leaf ⟨⟨⟨0,rfl⟩,⟨0,rfl⟩⟩,⟨⟨0,rfl⟩,⟨0,rfl⟩⟩,⟨8,rfl⟩⟩) (let c15:=zdx (zjc c10) (zat a1.x c4) a0.lon0;.leaf ⟨c15.a,c15.b,c15.c⟩)) (let c22:=zdx (zV (zaj ⟨5,rfl⟩ ⟨4,rfl⟩) (zeY (zhu (zV (zaj ⟨4,rfl⟩ ⟨5,rfl⟩) a1.y)))) a1.x a0.lon0;.leaf ⟨c22.a,c22.b,c22.c⟩)))))
theorem zmr (a0:Proj) (a1:zfV):Tb9.run B9 [enc a0,enc a1] (T3 Iv Iv I64)=(zdR a0 a1).opt:=by kernel_rfl
noncomputable def zcJ:Proj->zfV->T3 Iv Iv I64:=fun a0 a1=>(zdR a0 a1).get
theorem zmo (a0:Proj) (a1:zfV):(zdR a0 a1).opt=some (zcJ a0 a1):=Tr.z8 (by kernel_rfl)
noncomputable def zmz:Ent Tryz.prog:= .of2 Tb9 B9 (fun _ _=>true) zcJ fun a0 a1 _=>(zmr a0 a1).trans (zmo a0 a1)
noncomputable def zc9 (a0:Proj):Tr (Bool):=
 .br (zb8 a0) (.leaf (zX a0.kind ⟨1,rfl⟩ ⟨4,rfl⟩)) (.leaf false)
noncomputable def zaH:Proj->Bool:=fun a0=>(zc9 a0).get
noncomputable def zlA (a0:Proj) (a1:zbk):Tr (Iv):=
 .leaf (zD (zbn (Rng.w .i64 (a1.lon.val-a0.lon0.val))))
noncomputable def zbc:Proj->zbk->Iv:=fun a0 a1=>(zlA a0 a1).get
noncomputable def zlB (a0:Iv) (a1:Iv):Tr (T2 zfV I64):=
 .br (!(ze a0)) (.leaf ⟨⟨⟨⟨0,rfl⟩,⟨0,rfl⟩⟩,⟨⟨0,rfl⟩,⟨0,rfl⟩⟩⟩,⟨9,rfl⟩⟩) (.br (!(ze a1)) (.leaf ⟨⟨⟨⟨0,rfl⟩,⟨0,rfl⟩⟩,⟨⟨0,rfl⟩,⟨0,rfl⟩⟩⟩,⟨9,rfl⟩⟩) (.leaf ⟨⟨a0,a1⟩,⟨0,rfl⟩⟩))
noncomputable def zbl:Iv->Iv->T2 zfV I64:=fun a0 a1=>(zlB a0 a1).get
noncomputable def zdQ (a0:Proj) (a1:zbk):Tr (T2 zfV I64):=
 .br (!(zaH a0)) (.leaf ⟨⟨⟨⟨0,rfl⟩,⟨0,rfl⟩⟩,⟨⟨0,rfl⟩,⟨0,rfl⟩⟩⟩,⟨1,rfl⟩⟩) (.br (!(zay a1)) (.leaf ⟨⟨⟨⟨0,rfl⟩,⟨0,rfl⟩⟩,⟨⟨0,rfl⟩,⟨0,rfl⟩⟩⟩,⟨1,rfl⟩⟩) (.br (a0.kind.val==2) (.br (zaI a1) (.leaf ⟨⟨⟨⟨0,rfl⟩,⟨0,rfl⟩⟩,⟨⟨0,rfl⟩,⟨0,rfl⟩⟩⟩,⟨8,rfl⟩⟩) (let c4:=zbA a1;let c5:=zbc a0 a1;let c7:=zbN (zD a0.lat1);.br (a0.kind.val==1) (let c9:=zbl (zz c5 c7) c4;.leaf ⟨c9.a,c9.b⟩) (.br (a0.kind.val==2) (let c12:=zbl c5 (zbY (zdc c4));.leaf ⟨c12.a,c12.b⟩) (.br (a0.kind.val==3) (let c16:=zbl (zz c5 c7) (zO (ze5 c4) c7);.leaf ⟨c16.a,c16.b⟩) (let c23:=zbl c5 (zz (zK ⟨5,rfl⟩ ⟨4,rfl⟩) (zbY (zdc (zz (zK ⟨4,rfl⟩ ⟨5,rfl⟩) c4))));.leaf ⟨c23.a,c23.b⟩))))) (let c24:=zbA a1;let c25:=zbc a0 a1;let c27:=zbN (zD a0.lat1);.br (a0.kind.val==1) (let c29:=zbl (zz c25 c27) c24;.leaf ⟨c29.a,c29.b⟩) (.br (a0.kind.val==2) (let c32:=zbl c25 (zbY (zdc c24));.leaf ⟨c32.a,c32.b⟩) (.br (a0.kind.val==3) (let c36:=zbl (zz c25 c27) (zO (ze5 c24) c27);.leaf ⟨c36.a,c36.b⟩) (let c43:=zbl c25 (zz (zK ⟨5,rfl⟩ ⟨4,rfl⟩) (zbY (zdc (zz (zK ⟨4,rfl⟩ ⟨5,rfl⟩) c24))));.leaf ⟨c43.a,c43.b⟩))))))
noncomputable def zP:Proj->zbk->T2 zfV I64:=fun a0 a1=>(zdQ a0 a1).get
noncomputable def zfl (a0:Proj) (a1:Iv) (a2:Iv):Tr (T3 Iv Iv I64):=
 .br (zcw ⟨1,rfl⟩) (let c1:=zaQ ⟨1,rfl⟩;.br (zcw ⟨2,rfl⟩) (let c2:=zaQ ⟨2,rfl⟩;.br (ze a1) (.br (!(zo a1 ⟨(Rng.w .i64 (0-c1.hi.val)),c1.hi⟩)) (.leaf ⟨⟨⟨0,rfl⟩,⟨0,rfl⟩⟩,⟨⟨0,rfl⟩,⟨0,rfl⟩⟩,⟨8,rfl⟩⟩) (.br (ze a2) (.br (!(zo a2 ⟨(Rng.w .i64 (0-c2.hi.val)),c2.hi⟩)) (.leaf ⟨⟨⟨0,rfl⟩,⟨0,rfl⟩⟩,⟨⟨0,rfl⟩,⟨0,rfl⟩⟩,⟨8,rfl⟩⟩) (let c10:=zH a2 (zD a0.lon0);.br (!(ze a1)) (.leaf ⟨⟨⟨0,rfl⟩,⟨0,rfl⟩⟩,⟨⟨0,rfl⟩,⟨0,rfl⟩⟩,⟨9,rfl⟩⟩) (.br (!(ze c10)) (.leaf ⟨⟨⟨0,rfl⟩,⟨0,rfl⟩⟩,⟨⟨0,rfl⟩,⟨0,rfl⟩⟩,⟨9,rfl⟩⟩) (.leaf ⟨a1,c10,⟨0,rfl⟩⟩)))) (let c14:=zH a2 (zD a0.lon0);.br (!(ze a1)) (.leaf ⟨⟨⟨0,rfl⟩,⟨0,rfl⟩⟩,⟨⟨0,rfl⟩,⟨0,rfl⟩⟩,⟨9,rfl⟩⟩) (.br (!(ze c14)) (.leaf ⟨⟨⟨0,rfl⟩,⟨0,rfl⟩⟩,⟨⟨0,rfl⟩,⟨0,rfl⟩⟩,⟨9,rfl⟩⟩) (.leaf ⟨a1,c14,⟨0,rfl⟩⟩))))) (.br (ze a2) (.br (!(zo a2 ⟨(Rng.w .i64 (0-c2.hi.val)),c2.hi⟩)) (.leaf ⟨⟨⟨0,rfl⟩,⟨0,rfl⟩⟩,⟨⟨0,rfl⟩,⟨0,rfl⟩⟩,⟨8,rfl⟩⟩) (let c21:=zH a2 (zD a0.lon0);.br (!(ze a1)) (.leaf ⟨⟨⟨0,rfl⟩,⟨0,rfl⟩⟩,⟨⟨0,rfl⟩,⟨0,rfl⟩⟩,⟨9,rfl⟩⟩) (.br (!(ze c21)) (.leaf ⟨⟨⟨0,rfl⟩,⟨0,rfl⟩⟩,⟨⟨0,rfl⟩,⟨0,rfl⟩⟩,⟨9,rfl⟩⟩) (.leaf ⟨a1,c21,⟨0,rfl⟩⟩)))) (let c25:=zH a2 (zD a0.lon0);.br (!(ze a1)) (.leaf ⟨⟨⟨0,rfl⟩,⟨0,rfl⟩⟩,⟨⟨0,rfl⟩,⟨0,rfl⟩⟩,⟨9,rfl⟩⟩) (.br (!(ze c25)) (.leaf ⟨⟨⟨0,rfl⟩,⟨0,rfl⟩⟩,⟨⟨0,rfl⟩,⟨0,rfl⟩⟩,⟨9,rfl⟩⟩) (.leaf ⟨a1,c25,⟨0,rfl⟩⟩))))) (.bad)) (.bad)
noncomputable def za6:Proj->Iv->Iv->T3 Iv Iv I64:=fun a0 a1 a2=>(zfl a0 a1 a2).get
noncomputable def zcQ:Proj->Iv->Iv->Bool:=fun a0 a1 a2=>(zfl a0 a1 a2).opt.isSome
noncomputable def zfw (a0:Proj) (a1:zfV):Tr (T3 Iv Iv I64):=
 .br (!(zaH a0)) (.leaf ⟨⟨⟨0,rfl⟩,⟨0,rfl⟩⟩,⟨⟨0,rfl⟩,⟨0,rfl⟩⟩,⟨1,rfl⟩⟩) (let c3:=zbN (zD a0.lat1);.br (a0.kind.val==1) (let c4:=zO a1.x c3;.br (zcQ a0 a1.y c4) (let c5:=za6 a0 a1.y c4;.leaf ⟨c5.a,c5.b,c5.c⟩) (.bad)) (.br (a0.kind.val==2) (let c7:=zeV (zhq a1.y);.br (zcQ a0 c7 a1.x) (let c8:=za6 a0 c7 a1.x;.leaf ⟨c8.a,c8.b,c8.c⟩) (.bad)) (.br (a0.kind.val==3) (let c9:=zz a1.y c3;.br (ze c9) (.br (!(zo c9 zR)) (.leaf ⟨⟨⟨0,rfl⟩,⟨0,rfl⟩⟩,⟨⟨0,rfl⟩,⟨0,rfl⟩⟩,⟨8,rfl⟩⟩) (let c13:=zf2 c9;let c14:=zO a1.x c3;.br (zcQ a0 c13 c14) (let c15:=za6 a0 c13 c14;.leaf ⟨c15.a,c15.b,c15.c⟩) (.bad))) (let c16:=zf2 c9;let c17:=zO a1.x c3;.br (zcQ a0 c16 c17) (let c18:=za6 a0 c16 c17;.leaf ⟨c18.a,c18.b,c18.c⟩) (.bad))) (let c24:=zz (zK ⟨5,rfl⟩ ⟨4,rfl⟩) (zeV (zhq (zz (zK ⟨4,rfl⟩ ⟨5,rfl⟩) a1.y)));.br (zcQ a0 c24 a1.x) (let c25:=za6 a0 c24 a1.x;.leaf ⟨c25.a,c25.b,c25.c⟩) (.bad)))))
noncomputable def zaK:Proj->zfV->T3 Iv Iv I64:=fun a0 a1=>(zfw a0 a1).get
end
end Go.Proofs.YtkenfaengphiiaaGreatDoor.Ev
namespace Go.Proofs.YtkenfaengphiiaaGreatDoor.Ev
open Go
theorem zCn:zgT=(zaQ ⟨1,rfl⟩).hi:=by
 obtain ⟨g,e1⟩:=zjf (k:=⟨1,rfl⟩) (by decide) (by decide)
 simp only [zgT,ziB,Tr.get,zjs,e1]
end Go.Proofs.YtkenfaengphiiaaGreatDoor.Ev
namespace Go.Proofs.YtkenfaengphiiaaGreatDoor.Ev
open Go
theorem zom (p:Proj):zZ p=zb8 p:=by
 simp only [zZ,zcb,zb8,zkt,Tr.get,zon,zb7,zd4,
  zdH,zex,zN,ziD,zfG,zfA,zbO,zcO]
 generalize zay ⟨p.lat0,p.lon0⟩=ok
 cases ok
 ·simp
 by_cases h1: -890000000<=p.lat1.val/\p.lat1.val<=890000000
 case neg=>simp [h1]
 by_cases h2: -890000000<=p.lat2.val/\p.lat2.val<=890000000
 case neg=>simp [h1,h2]
 have hm:(Rng.w .i64 (p.lat1.val+p.lat2.val)).val=p.lat1.val+p.lat2.val:=wi (by omega) (by omega)
 have ha:=zEb (Rng.w .i64 (p.lat1.val+p.lat2.val)) (by rw [hm];omega)
 rw [hm] at ha
 rw [ha,hm]
 by_cases hk:1<=p.kind.val/\p.kind.val<=16
 case neg=>
  have e:∀n:Int,1<=n->n<=16->(p.kind.val==n)=false:=fun n a b=>by simp;omega
  simp [h1,h2,hk,e]
 have:p.kind.val=1\/p.kind.val=2\/p.kind.val=3\/p.kind.val=4\/p.kind.val=5\/p.kind.val=6\/p.kind.val=7\/p.kind.val=8\/p.kind.val=9\/p.kind.val=10\/p.kind.val=11 \/
  p.kind.val=12\/p.kind.val=13\/p.kind.val=14\/p.kind.val=15\/p.kind.val=16:=by omega
 rcases this with h|h|h|h|h|h|h|h|h|h|h|h|h|h|h|h<;>simp only [h]<;>simp [h1,h2]<;>(try rw [Bool.eq_iff_iff])<;>simp [Bool.cond_eq_ite]<;>(try split)<;>(try omega)<;>grind
theorem zBn {a:Proj} {p:zbk} (h0:zb8 a=true) (h1:zay p=true):zgW a p=zbc a p:=by
 have hp:zZ a=zb8 a:=zom a
 simp only [zgW,ziJ,zbc,zlA,Tr.get,hp,zon,h0,h1,Bool.not_true,cfl,zGv,zlk]
theorem zCq (x y:Iv):zee x y=zbl x y:=by
 simp only [zee,zjx,zbl,zlB,Tr.get,zl3]
 cases ze x<;>cases ze y<;>simp [ctr,cfl]
theorem znb {a b:Iv} (h:ze a=false):zo a b=true:=by
 simp only [zo,zdL,za4,zdp,Tr.get,h,Bool.not_false,ctr]
 cases ze b<;>simp only [Bool.not_false,Bool.not_true,ctr,cfl]
theorem zC5 {k:I64} (h:zX k ⟨1,rfl⟩ ⟨4,rfl⟩=true):k.val=1\/k.val=2\/k.val=3\/k.val=4:=by
 rw [zcO] at h;simp at h;omega
theorem zH1 (a:Proj) (p:zbk):zad a p=zP a p:=by
 have hp:zZ a=zb8 a:=zom a
 have hk:zbK a.kind=zX a.kind ⟨1,rfl⟩ ⟨4,rfl⟩:=by simp only [zbK,zdg,Tr.get,zbO,zcO]
 simp only [zad,zdS,zP,zdQ,zaH,zc9,Tr.get,hp,hk,zon]
 cases h0:zb8 a
 ·simp [ctr,cfl]
 cases h1:zay p
 ·cases zX a.kind ⟨1,rfl⟩ ⟨4,rfl⟩<;>simp [ctr,cfl]
 cases h2:zX a.kind ⟨1,rfl⟩ ⟨4,rfl⟩
 ·simp [ctr,cfl]
 simp only [Bool.not_true,ctr,cfl,zG8 h1,zIY h1,zyn h1,zBn h0 h1,zlk,zDN,zGN,zmi,zp3,zrB,zCq,zD4,zBW]
 rcases zC5 h2 with h|h|h|h<;>simp [h,ctr,cfl]
theorem zBi (a:Proj) (x y:Iv):zdx x y a.lon0=za6 a x y:=by
 obtain ⟨g1,e1⟩:=zjf (k:=⟨1,rfl⟩) (by decide) (by decide)
 obtain ⟨g2,e2⟩:=zjf (k:=⟨2,rfl⟩) (by decide) (by decide)
 simp only [zdx,ziC,zef,zfz,zl9,zlF,za6,zfl,Tr.get,zCn,zjs,e1,e2,g1,g2,zll,zl3,add_eq,zlk,ctr]
 cases hx:ze x
 ·rw [znb hx]
  cases hy:ze y
  ·rw [znb hy];simp [ctr,cfl]
  ·simp only [Bool.not_true,Bool.not_false,ctr,cfl,Bool.false_and]
 ·generalize zo x _=c
  cases hy:ze y
  ·rw [znb hy]
   cases c<;>simp [ctr,cfl]
  ·generalize zo y _=d
   generalize ze (zH y _)=f
   cases c<;>cases d<;>cases f<;>simp [ctr,cfl]
theorem zJl (a:Proj) (x y:Iv):zcQ a x y=true:=by
 obtain ⟨g1,_⟩:=zjf (k:=⟨1,rfl⟩) (by decide) (by decide)
 obtain ⟨g2,_⟩:=zjf (k:=⟨2,rfl⟩) (by decide) (by decide)
 unfold zcQ
 simp only [zfl,Tr.opt,g1,g2,ctr]
 repeat' (first|rfl|refine zmU _ _ _ ?_ ?_)
theorem zH0 (a:Proj) (p:zfV):zcJ a p=zaK a p:=by
 have hp:zZ a=zb8 a:=zom a
 have hk:zbK a.kind=zX a.kind ⟨1,rfl⟩ ⟨4,rfl⟩:=by simp only [zbK,zdg,Tr.get,zbO,zcO]
 simp only [zcJ,zdR,zaK,zfw,zaH,zc9,Tr.get,hp,hk]
 cases h0:zb8 a
 ·simp [ctr,cfl]
 cases h2:zX a.kind ⟨1,rfl⟩ ⟨4,rfl⟩
 ·simp [ctr,cfl]
 simp only [Bool.not_true,ctr,cfl,zlk,zDN,zmi,zp3,zrB,zAO,zEA,zFI,zBi,zll,znO]
 rcases zC5 h2 with h|h|h|h<;>simp [h,ctr,cfl,zJl]
 generalize zz p.y _=s
 cases hs:ze s
 ·rw [znb hs];simp [ctr,cfl]
 ·simp [ctr,cfl]
end Go.Proofs.YtkenfaengphiiaaGreatDoor.Ev
