/- The law FnOmega gives true, whatever comes in; each argument reads behind the call as it read before. No conditions. (One of the texts of its proof, put together by a program of this session.) -/
import Derived.Test.YtaoakfodkoifoaaGreatZW5
import Derived.Test.YtaoakfodkoifoaaGreatZPT
set_option linter.unusedSectionVars false
set_option linter.unusedSimpArgs false
set_option linter.unusedVariables false
namespace Go.Proofs.YtaoakfodkoifoaaGreat.Ev
open Go Go.RowKit
set_option maxRecDepth 100000
section
variable [Amb]
noncomputable def B309:Bod Tryz.prog:=⟨309,Tryz.f309,Tryz.f309.body.getD .skip,Tryz.func309,by kernel_rfl,by kernel_rfl,zar.no _ _⟩
noncomputable def zOx:Tb Tryz.prog:= {T:= [Y2,Y32],mix:=mix,Es:= [zcj,zah,zpX,zf6,zwu],Bs:= [],d:=1}
noncomputable def zjI (a0:I64):Tr (Iv):=
 .br (decide (a0.val>=4294967296)) (.leaf zD) (.leaf (zgf (zkL (zad (zbo (Rng.w .i64 (4294967296+a0.val))) (zbo (Rng.w .i64 (4294967296-a0.val)))))))
theorem zvr (a0:I64):zOx.run B309 [enc a0] (Iv)=(zjI a0).opt:=by kernel_rfl
noncomputable def zf4:I64->Iv:=fun a0=>(zjI a0).get
theorem zuO (a0:I64):(zjI a0).opt=some (zf4 a0):=Tr.zX (by kernel_rfl)
noncomputable def zwx:Ent Tryz.prog:= .of1 zOx B309 (fun _=>true) zf4 fun a0 _=>(zvr a0).trans (zuO a0)
noncomputable def Y40:TyE Tryz.prog:=⟨40,1,.func,[.nilf],false,by kernel_rfl,by kernel_rfl,by kernel_rfl,by kernel_rfl,by kernel_rfl,by kernel_rfl⟩
noncomputable def B326:Bod Tryz.prog:=⟨326,Tryz.f326,Tryz.f326.body.getD .skip,Tryz.func326,by kernel_rfl,by kernel_rfl,zar.no _ _⟩
noncomputable def zty:Tb Tryz.prog:= {T:= [Y2,Y32,Y40],mix:=mix,Es:= [zhM,zwx],Bs:= [],d:=1}
noncomputable def zeJ (a0:I64) (d0:zz4 309):Tr (Iv):=
 .br (decide (a0.val<0)) (.leaf (zdB (zf4 (Rng.w .i64 (0-a0.val))))) (.leaf (zf4 a0))
theorem zqV (a0:I64) (d0:zz4 309):zlr zty B326 [enc a0,.ptr 0 0] [(0,Cap.ec d0)] 1 (Iv)=(zeJ a0 d0).opt:=by kernel_rfl
noncomputable def zb2:I64->zz4 309->Iv:=fun a0 d0=>(zeJ a0 d0).get
theorem zqK (a0:I64) (d0:zz4 309):(zeJ a0 d0).opt=some (zb2 a0 d0):=Tr.zX (by kernel_rfl)
noncomputable def zrd:Ent Tryz.prog:= .cap1 zty B326 (fun _ _=>true) zb2 fun a0 d0 _=>(zqV a0 d0).trans (zqK a0 d0)
noncomputable def B305:Bod Tryz.prog:=⟨305,Tryz.f305,Tryz.f305.body.getD .skip,Tryz.func305,by kernel_rfl,by kernel_rfl,zar.no _ _⟩
noncomputable def B271:Bod Tryz.prog:=⟨271,Tryz.f271,Tryz.f271.body.getD .skip,Tryz.func271,by kernel_rfl,by kernel_rfl,zar.no _ _⟩
noncomputable def zMX:Tb Tryz.prog:= {T:= [Y2,Y32],mix:=mix,Es:= [za6,zah,zbB,zbl,zrd],Bs:= [B178,B305],d:=8}
noncomputable def zh2 (a0:Iv):Tr (Iv):=
 .br (zab a0) (.leaf zD) (let c3:=zb2 a0.lo ⟨⟩;let c4:=zb2 a0.hi ⟨⟩;.br (!(zaU c3 c4)) (.leaf zD) (.leaf (zaN c3.lo c4.hi true)))
theorem zxv (a0:Iv):zxP zMX B271 [enc a0] [0,1,2,3] (Iv)=(zh2 a0).opt:=by kernel_rfl
theorem zxt (a0:Iv):zxP zMX B271 [enc a0] [1,0,2,3] (Iv)=(zh2 a0).opt:=by kernel_rfl
noncomputable def zke:Iv->Iv:=fun a0=>(zh2 a0).get
noncomputable def zfJ (a0:I64):Tr (Iv):=
 .br (decide (a0.val<0)) (.bad) (.br (decide (a0.val>=4294967296)) (.leaf zh) (.leaf (zdW (zkF (zo (zbk (Rng.w .i64 (4294967296+a0.val))) (zbk (Rng.w .i64 (4294967296-a0.val))))))))
noncomputable def zn8:I64->Iv:=fun a0=>(zfJ a0).get
noncomputable def zkC:I64->Bool:=fun a0=>(zfJ a0).opt.isSome
noncomputable def zhc (a0:I64):Tr (Iv):=
 .br (decide (a0.val<0)) (let c1:=(Rng.w .i64 (0-a0.val));.br (zkC c1) (.leaf (zaK (zn8 c1))) (.bad)) (.br (decide (a0.val>=4294967296)) (.leaf zh) (.leaf (zdW (zkF (zo (zbk (Rng.w .i64 (4294967296+a0.val))) (zbk (Rng.w .i64 (4294967296-a0.val))))))))
noncomputable def zj5:I64->Iv:=fun a0=>(zhc a0).get
noncomputable def zfT:I64->Bool:=fun a0=>(zhc a0).opt.isSome
noncomputable def zof (a0:Iv):Tr (Iv):=
 .br (!(za a0)) (.leaf zh) (.br (zfT a0.lo) (.br (zfT a0.hi) (.leaf (zb6 (zj5 a0.lo) (zj5 a0.hi))) (.bad)) (.bad))
noncomputable def zoQ:Iv->Iv:=fun a0=>(zof a0).get
structure zdS where
 x0:I64
 x1:I64
 x2:I64
 x3:I64
 x4:I64
instance:Inhabited zdS:=⟨⟨default,default,default,default,default⟩⟩
noncomputable def zoW (x:zdS):St:=⟨[(1,.i64 x.x0),(2,.ptr 0 0),(4,.ptr 1 0)],27,⟨[(0,[.i64 x.x1,.i64 x.x2]),(1,[.i64 x.x3,.i64 x.x4])],2,0⟩⟩
noncomputable def zoZ:St->Option zdS:=fun s=>match s with
 | ⟨[(1,.i64 x0),(2,.ptr 0 0),(4,.ptr 1 0)],27,⟨[(0,[.i64 x1,.i64 x2]),(1,[.i64 x3,.i64 x4])],2,0⟩⟩=>some ⟨x0,x1,x2,x3,x4⟩
 | _=>none
noncomputable def zdP (x:zdS):Tr (Lp zdS):=
 .br (decide (x.x0.val>0)) (let c1:=zcr ⟨x.x1,x.x2⟩;.leaf (.again ⟨(Rng.w .i64 (x.x0.val-1)),c1.lo,c1.hi,x.x3,x.x4⟩)) (.leaf (.out ⟨x.x0,x.x1,x.x2,x.x3,x.x4⟩))
noncomputable def zfW (x:zdS):Bool:=(Lf zdP 70 x).opt.isSome
noncomputable def zjW (x:zdS):zdS:=(Lf zdP 70 x).get
noncomputable def zs6:Tb Tryz.prog:= {T:= [Y32],mix:=mix,Es:= [znR],Bs:= [],d:=1}
noncomputable def zmI:LpF:=zvO [1,2,4] [0,1] 2 zoZ zoW (.exit 0) zfW zjW
theorem zsS:zkp Tryz.prog (zo2 (Tryz.f303.body.getD .skip) 0) zmI:=zl4 (t:=zs6) (lt:=fun _=>none) (body:=zdP) (n:=70) (by intro h;cases h) (fun _ _ _ h=>by cases h)
 (by intro s x h;unfold zoZ at h;split at h<;>cases h;rfl) (fun x b cs h=>zvP (l:=(zoW x).mm.blks) (by kernel_rfl) h) (by intro x;kernel_rfl) (fun x h=>Tr.get_some h)
noncomputable def B303:Bod Tryz.prog:=⟨303,Tryz.f303,Tryz.f303.body.getD .skip,Tryz.func303,by kernel_rfl,by kernel_rfl,⟨ltOf [(1,zmI)],zar.of (ks:= [1]) (by kernel_rfl) (by
 intro i k h f hf
 match i,h with
 | 0,h=>cases h;obtain rfl:zmI=f:=Option.some.inj hf;exact zsS
 | n+1,h=>simp at h)⟩⟩
noncomputable def zOC:Tb Tryz.prog:= {T:= [Y2,Y32],mix:=mix,Es:= [za6,zah],Bs:= [],d:=1}
noncomputable def zej (a0:Iv) (a1:I64):Tr (Iv):=
 .br (zfW ⟨a1,a0.lo,a0.hi,⟨0,rfl⟩,⟨0,rfl⟩⟩) (let c3:=zjW ⟨a1,a0.lo,a0.hi,⟨0,rfl⟩,⟨0,rfl⟩⟩;.br (zab ⟨c3.x1,c3.x2⟩) (.leaf zD) (let c6:=(Rng.w .i64 (0-c3.x0.val));.br (decide (c6.val<0)) (.bad) (let c9:=(Rng.w .i64 (0-c3.x0.val));.br (decide (c9.val<0)) (.bad) (.leaf ⟨(Rng.w .i64 (c3.x1.val.fdiv (2^min (c6.val).toNat 64))),(Rng.w .i64 (0-(Rng.w .i64 ((Rng.w .i64 (0-c3.x2.val)).val.fdiv (2^min (c9.val).toNat 64))).val))⟩)))) (.bad)
theorem zzk (a0:Iv) (a1:I64):zOC.run B303 [enc a0,enc a1] (Iv)=(zej a0 a1).opt:=by kernel_rfl
noncomputable def zj8:Iv->I64->Iv:=fun a0 a1=>(zej a0 a1).get
noncomputable def zj0:Iv->I64->Bool:=fun a0 a1=>(zej a0 a1).opt.isSome
noncomputable def zz8:Ent Tryz.prog:= .of2 zOC B303 zj0 zj8 fun a0 a1 h=>(zzk a0 a1).trans (Tr.get_some h)
noncomputable def zml (a0:Iv) (a1:I64):Tr (Iv):=
 .br (decide (a1.val>=0)) (.leaf (zU (Rng.w .i64 (a0.lo.val*(2^min ((Rng.w .u64 (a1.val)).val).toNat 64))) (Rng.w .i64 (a0.hi.val*(2^min ((Rng.w .u64 (a1.val)).val).toNat 64))))) (.leaf (zU (Rng.w .i64 (a0.lo.val.fdiv (2^min ((Rng.w .u64 ((Rng.w .i64 (0-a1.val)).val)).val).toNat 64))) (Rng.w .i64 (0-(Rng.w .i64 ((Rng.w .i64 (0-a0.hi.val)).val.fdiv (2^min ((Rng.w .u64 ((Rng.w .i64 (0-a1.val)).val)).val).toNat 64))).val))))
noncomputable def zeP:Iv->I64->Iv:=fun a0 a1=>(zml a0 a1).get
noncomputable def ztq (a0:I64):Tr (Iv):=
 .br (!(zJ a0)) (.leaf zh) (.br (decide (a0.val>85899345920)) (.leaf zh) (.br (decide (a0.val<(-98784247808))) (.leaf ⟨⟨0,rfl⟩,⟨1,rfl⟩⟩) (let c8:=(Rng.w .i64 ((Rng.w .i64 ((Rng.w .i64 (2*a0.val)).val+2977044472)).val.tdiv 5954088944));.br (decide ((Rng.w .i64 ((Rng.w .i64 ((Rng.w .i64 (2*a0.val)).val+2977044472)).val.tmod 5954088944)).val<0)) (let c12:=(Rng.w .i64 (c8.val-1));let c15:=zG (zbk a0) (za0 c12);.leaf (zeP (zcL (zq zaw (zo (zk c15 (zq zaw (zo (zk c15 (zq zaw (zo (zk c15 (zq zaw (zo (zk c15 (zq zaw (zo (zk c15 (zq zaw (zo (zk c15 (zq zaw (zo (zk c15 (zq zaw (zo (zk c15 (zq zaw (zo (zk c15 zaw) (zf ⟨9,rfl⟩)))) (zf ⟨8,rfl⟩)))) (zf ⟨7,rfl⟩)))) (zf ⟨6,rfl⟩)))) (zf ⟨5,rfl⟩)))) (zf ⟨4,rfl⟩)))) (zf ⟨3,rfl⟩)))) (zf ⟨2,rfl⟩)))) (zf ⟨1,rfl⟩))) ⟨1,rfl⟩) c12)) (let c66:=zG (zbk a0) (za0 c8);.leaf (zeP (zcL (zq zaw (zo (zk c66 (zq zaw (zo (zk c66 (zq zaw (zo (zk c66 (zq zaw (zo (zk c66 (zq zaw (zo (zk c66 (zq zaw (zo (zk c66 (zq zaw (zo (zk c66 (zq zaw (zo (zk c66 (zq zaw (zo (zk c66 zaw) (zf ⟨9,rfl⟩)))) (zf ⟨8,rfl⟩)))) (zf ⟨7,rfl⟩)))) (zf ⟨6,rfl⟩)))) (zf ⟨5,rfl⟩)))) (zf ⟨4,rfl⟩)))) (zf ⟨3,rfl⟩)))) (zf ⟨2,rfl⟩)))) (zf ⟨1,rfl⟩))) ⟨1,rfl⟩) c8)))))
noncomputable def zlt:I64->Iv:=fun a0=>(ztq a0).get
noncomputable def B268:Bod Tryz.prog:=⟨268,Tryz.f268,Tryz.f268.body.getD .skip,Tryz.func268,by kernel_rfl,by kernel_rfl,zar.no _ _⟩
noncomputable def zOS:Tb Tryz.prog:= {T:= [Y2,Y32],mix:=mix,Es:= [zbi,zck,zcj,zbW,zcZ,zah,zf6,zd0,zmU,zz8,zqF],Bs:= [],d:=1}
noncomputable def zlh (a0:I64):Tr (Iv):=
 .br (!(za2 a0)) (.leaf zD) (.br (decide (a0.val>85899345920)) (.leaf zD) (.br (decide (a0.val<(-98784247808))) (.leaf ⟨⟨0,rfl⟩,⟨1,rfl⟩⟩) (let c8:=(Rng.w .i64 ((Rng.w .i64 ((Rng.w .i64 (2*a0.val)).val+2977044472)).val.tdiv 5954088944));.br (decide ((Rng.w .i64 ((Rng.w .i64 (c8.val*2)).val*2977044472)).val>(Rng.w .i64 ((Rng.w .i64 (2*a0.val)).val+2977044472)).val)) (let c14:=(Rng.w .i64 (c8.val-1));let c17:=zaz (zbo a0) (zex c14);let c64:=zet (zR (zw ⟨1,rfl⟩) (zad (zF c17 (zR (zw ⟨1,rfl⟩) (zad (zF c17 (zR (zw ⟨1,rfl⟩) (zad (zF c17 (zR (zw ⟨1,rfl⟩) (zad (zF c17 (zR (zw ⟨1,rfl⟩) (zad (zF c17 (zR (zw ⟨1,rfl⟩) (zad (zF c17 (zR (zw ⟨1,rfl⟩) (zad (zF c17 (zR (zw ⟨1,rfl⟩) (zad (zF c17 (zR (zw ⟨1,rfl⟩) (zad (zF c17 (zw ⟨1,rfl⟩)) (zw ⟨9,rfl⟩)))) (zw ⟨8,rfl⟩)))) (zw ⟨7,rfl⟩)))) (zw ⟨6,rfl⟩)))) (zw ⟨5,rfl⟩)))) (zw ⟨4,rfl⟩)))) (zw ⟨3,rfl⟩)))) (zw ⟨2,rfl⟩)))) (zw ⟨1,rfl⟩))) ⟨1,rfl⟩;.br (zj0 c64 c14) (.leaf (zj8 c64 c14)) (.bad)) (let c68:=zaz (zbo a0) (zex c8);let c115:=zet (zR (zw ⟨1,rfl⟩) (zad (zF c68 (zR (zw ⟨1,rfl⟩) (zad (zF c68 (zR (zw ⟨1,rfl⟩) (zad (zF c68 (zR (zw ⟨1,rfl⟩) (zad (zF c68 (zR (zw ⟨1,rfl⟩) (zad (zF c68 (zR (zw ⟨1,rfl⟩) (zad (zF c68 (zR (zw ⟨1,rfl⟩) (zad (zF c68 (zR (zw ⟨1,rfl⟩) (zad (zF c68 (zR (zw ⟨1,rfl⟩) (zad (zF c68 (zw ⟨1,rfl⟩)) (zw ⟨9,rfl⟩)))) (zw ⟨8,rfl⟩)))) (zw ⟨7,rfl⟩)))) (zw ⟨6,rfl⟩)))) (zw ⟨5,rfl⟩)))) (zw ⟨4,rfl⟩)))) (zw ⟨3,rfl⟩)))) (zw ⟨2,rfl⟩)))) (zw ⟨1,rfl⟩))) ⟨1,rfl⟩;.br (zj0 c115 c8) (.leaf (zj8 c115 c8)) (.bad)))))
theorem zBg (a0:I64):zOS.run B268 [enc a0] (Iv)=(zlh a0).opt:=by kernel_rfl
noncomputable def zlw:I64->Iv:=fun a0=>(zlh a0).get
structure zh9 where
 x0:I64
 x1:I64
 x2:I64
 x3:I64
 x4:I64
instance:Inhabited zh9:=⟨⟨default,default,default,default,default⟩⟩
noncomputable def zjR (x:zh9):Tr (Lp2 zh9):=
 .br (decide (x.x0.val<=(Rng.w .i64 ((zY x.x2).val+1)).val)) (.br ((Rng.w .i64 (zbI .and .i64 x.x0.val 1)).val==1) (.br (zaR (zP x.x0) ⟨x.x1,x.x2⟩) (.leaf (.out ⟨x.x0,x.x1,x.x2,zaW.lo,zaW.hi⟩)) (.leaf (.again ⟨(Rng.w .i64 (x.x0.val+1)),x.x1,x.x2,x.x3,x.x4⟩))) (.leaf (.again ⟨(Rng.w .i64 (x.x0.val+1)),x.x1,x.x2,x.x3,x.x4⟩))) (.leaf (.alt ⟨x.x0,x.x1,x.x2,x.x3,x.x4⟩))
noncomputable def zoM (x:zh9):Bool:=(Lf2 zjR 1000 x).opt.isSome
noncomputable def zr4 (x:zh9):Tw zh9:=(Lf2 zjR 1000 x).get
noncomputable def zqM (a0:Iv):Tr (Iv):=
 .br (!(zb7 a0)) (.leaf zaW) (let c4:=(Rng.w .i64 ((zY a0.lo).val-1));.br (zoM ⟨c4,a0.lo,a0.hi,⟨0,rfl⟩,⟨0,rfl⟩⟩) (let c14:=zr4 ⟨c4,a0.lo,a0.hi,⟨0,rfl⟩,⟨0,rfl⟩⟩;.br c14.b (.leaf ⟨c14.s.x3,c14.s.x4⟩) (.leaf (zN (zo (zdV c14.s.x1) (zes c14.s.x1)) (zo (zdV c14.s.x2) (zes c14.s.x2))))) (.bad))
noncomputable def zwl:Iv->Iv:=fun a0=>(zqM a0).get
end
end Go.Proofs.YtaoakfodkoifoaaGreat.Ev
namespace Go.Proofs.YtaoakfodkoifoaaGreat.Ev
open Go
theorem zDs (a b:Iv):(bif !(za a&&za b) then zh else zU a.lo b.hi)=zb6 a b:=by
 simp only [zb6,ziz,Tr.get]
 cases za a<;>cases za b<;>simp [ctr,cfl]
theorem zHu (x:Iv):zkL x=zkF x:=by
 simp only [zkL,zop,zkF,zuV,Tr.get,ziH,zjS,za1,zc2,zEw,ctr,zDs]
theorem zoB {n:I64} (h: -1152921504606846976<n.val/\n.val<1152921504606846976):zbk n=zB n:=by
 simp only [zbk,zm0,zB,zhf,Tr.get]
 exact zbq (by omega)
theorem zK6 (n:I64) (h:0<=n.val):(zfJ n).opt=some (zf4 n):=by
 have hn:decide (n.val<0)=false:=by simp;omega
 simp only [zfJ,Tr.opt,zf4,zjI,Tr.get,hn,cond_false,zzN,zHu,zjQ,za1]
 by_cases hU:n.val>=4294967296
 ·simp only [hU,decide_true,cond_true]
 ·have e1:(Rng.w .i64 (4294967296+n.val)).val=4294967296+n.val:=wi (by omega) (by omega)
  have e2:(Rng.w .i64 (4294967296-n.val)).val=4294967296-n.val:=wi (by omega) (by omega)
  simp only [hU,decide_false,cond_false]
  rw [zoB (n:= .w .i64 (4294967296+n.val)) (by omega),zoB (n:= .w .i64 (4294967296-n.val)) (by omega),at_eq,at_eq]
theorem zIu (n:I64) (h: -1152921504606846976<n.val/\n.val<1152921504606846976):(zhc n).opt=some (zb2 n ⟨⟩):=by
 by_cases hn:n.val<0
 ·have e1:(Rng.w .i64 (0-n.val)).val=0-n.val:=wi (by omega) (by omega)
  have a1:=zK6 (.w .i64 (0-n.val)) (by omega)
  have g1:zkC (.w .i64 (0-n.val))=true:=by unfold zkC;rw [a1];rfl
  have f1:zn8 (.w .i64 (0-n.val))=_:=Tr.zai a1
  have hd:decide (n.val<0)=true:=by simpa using hn
  simp only [zhc,Tr.opt,zb2,zeJ,Tr.get,hd,cond_true,g1,f1,neg_eq]
 ·have a1:=zK6 n (by omega)
  have hd:decide (n.val<0)=false:=by simpa using hn
  simp only [zfJ,Tr.opt,hd,cond_false] at a1
  simp only [zhc,Tr.opt,zb2,zeJ,Tr.get,hd,cond_false]
  exact a1
theorem zE3 (x:Iv):∃y,(zof x).opt=some y/\(zh2 x).opt=some y:=by
 simp only [zof,zh2,Tr.opt,ziH,zjS,za1,zc2]
 cases h:za x
 ·exact ⟨_,rfl,rfl⟩
 have hb:=(zaB x).1 h
 have a1:=zIu x.lo (by omega)
 have a2:=zIu x.hi (by omega)
 have g1:zfT x.lo=true:=by unfold zfT;rw [a1];rfl
 have g2:zfT x.hi=true:=by unfold zfT;rw [a2];rfl
 have f1:zj5 x.lo=_:=Tr.zai a1
 have f2:zj5 x.hi=_:=Tr.zai a2
 simp only [Bool.not_true,cond_false,cond_true,g1,g2,f1,f2,zb6,ziz,Tr.get]
 cases za (zb2 x.lo ⟨⟩)<;>cases za (zb2 x.hi ⟨⟩)<;>exact ⟨_,rfl,rfl⟩
theorem zBR (x:Iv):zke x=zoQ x:=by
 obtain ⟨y,h1,h2⟩:=zE3 x
 exact (Tr.zai h2).trans (Tr.zai h1).symm
theorem zrn (x:Iv):(zh2 x).opt=some (zke x):=by obtain ⟨y,_,h1⟩:=zE3 x;exact zh4 h1
end Go.Proofs.YtaoakfodkoifoaaGreat.Ev
namespace Go.Proofs.YtaoakfodkoifoaaGreat.Ev
open Go Go.RowKit
set_option maxRecDepth 100000
variable [Amb]
noncomputable def TbN:Tb Tryz.prog:= {T:= [Y2,Y32],mix:=mix,Es:= [zo5,zah,zpW,ztD,zcj,zju],N:=1}
noncomputable def BN:Bod Tryz.prog:=⟨270,Tryz.f270,Tryz.f270.body.getD .skip,Tryz.func270,by kernel_rfl,by kernel_rfl,zar.no _ _⟩
noncomputable def N0:Code:=sL BN.code
noncomputable def N1:Code:=sL (sR BN.code)
noncomputable def N3:Code:=sL (sL (sR (sR BN.code)))
noncomputable def NL:Code:=unl (unb (sR (sL (sR (sR BN.code)))))
noncomputable def N9:Code:=sR (sR (sR BN.code))
theorem zRb:BN.code=N0.seq (N1.seq ((N3.seq (.block 0 (.loop NL))).seq N9)):=by kernel_rfl
noncomputable def N4:Code:=sL NL
noncomputable def N5:Code:=sL (unb (sL (sR (sR NL))))
noncomputable def N6:Code:=sR (unb (sL (sR (sR NL))))
noncomputable def N8:Code:=sR (sR (sR NL))
theorem zQ4:NL=N4.seq ((Code.cond (.tmp 13) .skip (.exit 0)).seq ((Code.block 1 (N5.seq N6)).seq N8)):=by kernel_rfl
noncomputable def nA (i:Nat):Oper:=(opsL N3).getD i default
theorem zQ6:N3= .region 3 [nA 0,nA 1,nA 2,nA 3].toArray false:=by kernel_rfl
noncomputable def nB (i:Nat):Oper:=(opsL N5).getD i default
theorem zQ5:N5= .region 5 [nB 0,nB 1,nB 2].toArray false:=by kernel_rfl
theorem nA_0:(nA 0).guard=none/\(nA 0).dst=some 9:=⟨by kernel_rfl,by kernel_rfl⟩
theorem nA_1:(nA 1).guard=none/\(nA 1).op= .call {callee:= .value (.func 247),args:=#[.tmp 9],argTypes:=#[32]}/\(nA 1).dst=some 10:=⟨by kernel_rfl,by kernel_rfl,by kernel_rfl⟩
theorem nA_2:(nA 2).guard=none/\(nA 2).op= .call {callee:= .builtin .len,args:=#[.tmp 10],argTypes:=#[96]}/\(nA 2).dst=some 11:=⟨by kernel_rfl,by kernel_rfl,by kernel_rfl⟩
theorem nA_3:(nA 3).guard=none/\(nA 3).op= .move (.const (.int .i64 0))/\(nA 3).dst=some 12:=⟨by kernel_rfl,by kernel_rfl,by kernel_rfl⟩
theorem nB_0:(nB 0).guard=none/\(nB 0).op= .indexAddr 96 (.tmp 10) (.tmp 12)/\(nB 0).dst=some 14:=⟨by kernel_rfl,by kernel_rfl,by kernel_rfl⟩
theorem nB_1:(nB 1).guard=none/\(nB 1).op= .load 2 (.tmp 14)/\(nB 1).dst=some 15:=⟨by kernel_rfl,by kernel_rfl,by kernel_rfl⟩
theorem nB_2:(nB 2).guard=none/\(nB 2).op= .assign (.tmp 15)/\(nB 2).dst=some 4:=⟨by kernel_rfl,by kernel_rfl,by kernel_rfl⟩
noncomputable def endN (x:Iv):Iv:=zaG (zad (zge x.lo) (zhG x.lo)) (zad (zge x.hi) (zhG x.hi))
noncomputable def odd1 (k:I64):Bool:=(Rng.w .i64 (zbI .and .i64 k.val 1)).val==1
def s1N (x z:Iv):St:=⟨[(1,.ptr 0 0),(2,.ptr 1 0)],36,⟨[(0,zko x),(1,zko z)],2,0⟩⟩
theorem n_0 (x:Iv):Piece TbN N0 [1,2] [0,1] ⟨zipF 0 [enc x],36,⟨[],0,0⟩⟩=some (.norm,s1N x zI):=by kernel_rfl
theorem n_1 (x:Iv):Piece TbN N1 [1,2] [0,1] (s1N x zI)=bif !(zb5 x) then some (.ret,s1N x zD) else some (.norm,s1N x zI):=by kernel_rfl
theorem n_3 (x:Iv):opk (A:=V×Mem) TbN.T (zoH TbN.T (fun _=>TbN.drw) TbN.Es TbN.Bs TbN.N TbN.d) (s1N x zI) (nA 0) (fun v m=>some (v,m))=some (enc x,(s1N x zI).mm):=by kernel_rfl
inductive FrN:List Nat->List (Nat×List V)->V->Prop
 | nil:FrN [1,0] [] .nils
 | slc (n c:Nat) (cs:List V):FrN [1,0,2] [(2,cs)] (.slc 2 0 n c)
def sN (x:Iv) (z:Iv) (n i:I64) (tl:List (Nat×List V)) (LV:V) (ex:List (Nat×V)):St:=⟨ex ++ [(1,.ptr 0 0),(2,.ptr 1 0),(10,LV),(11,.i64 n),(12,.i64 i)],36,⟨(1,zko z)::(0,zko x)::tl,3,0⟩⟩
theorem n_4 {x z:Iv} {n i:I64} {bl:List Nat} {tl:List (Nat×List V)} {LV:V} (h:FrN bl tl LV):
  Piece TbN N4 [13,1,2,10,11,12] bl (sN x z n i tl LV [])=some (.norm,sN x z n i tl LV [(13,.bool (decide (i.val<n.val)))]):=by cases h<;>kernel_rfl
theorem n_6 {x:Iv} {n i k:I64} {bl:List Nat} {tl:List (Nat×List V)} {LV:V} (h:FrN bl tl LV):
  Piece TbN N6 [1,2,10,11,12] bl (sN x zI n i tl LV [(4,.i64 k)])=bif odd1 k then some (.ret,sN x zD n i tl LV []) else some (.norm,sN x zI n i tl LV []):=by cases h<;>kernel_rfl
theorem n_8 {x:Iv} {n i:I64} {bl:List Nat} {tl:List (Nat×List V)} {LV:V} (h:FrN bl tl LV):
  Piece TbN N8 [1,2,10,11,12] bl (sN x zI n i tl LV [])=some (.norm,sN x zI n (.w .i64 (i.val+1)) tl LV []):=by cases h<;>kernel_rfl
theorem n_9 {x:Iv} {n i:I64} {bl:List Nat} {tl:List (Nat×List V)} {LV:V} (h:FrN bl tl LV):
  Piece TbN N9 [2] [1] (sN x zI n i tl LV [])=some (.ret,⟨[(2,.ptr 1 0)],36,⟨[(1,zko (endN x))],3,0⟩⟩):=by cases h<;>kernel_rfl
structure NInv (x:Iv) (wc:World) (L:List I64) (v:Value) (n i:I64) (ex:List (Nat×V)) (bl:List Nat) (tl:List (Nat×List V)) (LV:V) (ρ:Nat->Option Nat) (a:Act) (w:World):Prop where
 rel:Rel wc ρ (sN x zI n i tl LV ex) a w
 fr:FrN bl tl LV
 hv:a.tmps[10]?=some v
 ls:(v= .slice none 0 0/\L= []/\tl= [])\/∃g cap m,v= .slice (some ⟨g,0,none⟩) L.length cap/\ρ 2=some g/\tl= [(2,(L++m).map V.i64)]
section
variable {x:Iv} {wc:World} {L:List I64} {v:Value} {n i:I64} {ex:List (Nat×V)} {bl:List Nat} {tl:List (Nat×List V)} {LV:V} {ρ:Nat->Option Nat} {a:Act} {w:World}
theorem NInv.go (h:NInv x wc L v n i ex bl tl LV ρ a w) (hLV:(v= .slice none 0 0/\LV= .nils)\/∃g cap,v= .slice (some ⟨g,0,none⟩) L.length cap/\LV= .slc 2 0 L.length cap/\ρ 2=some g) {ρ':Nat->Option Nat} (e:Ext ρ ρ') {i':I64} {ex':List (Nat×V)} {a':Act} {w':World}
  (hr:Rel wc ρ' (sN x zI n i' tl LV ex') a' w') (hlk:lk (sN x zI n i' tl LV ex').tm 10=some LV):NInv x wc L v n i' ex' bl tl LV ρ' a' w':=by
 obtain ⟨y,y1,y2⟩:=hr.tm 10 _ hlk
 refine ⟨hr,h.fr,?_,?_⟩
 ·rcases hLV with ⟨rfl,rfl⟩|⟨g,cap,rfl,rfl,hg⟩
  ·cases y2;exact y1
  ·cases y2
   rename_i r hr'
   rw [e 2 g hg] at hr';cases hr';exact y1
 ·rcases h.ls with h1|⟨g,cap,m,h1,h2,h3⟩
  ·exact .inl h1
  ·exact .inr ⟨g,cap,m,h1,e 2 g h2,h3⟩
end
theorem zFo {x:Iv} {wc:World} {L:List I64} {v:Value} {n:I64} {bl:List Nat} {tl:List (Nat×List V)} {LV:V} (hn:n.val=L.length) (hL:L.length<=4000):
  ∀(m:Nat) (i:I64) (ρ:Nat->Option Nat) (a:Act) (w:World) (Q:Exit->Act->World->Prop),NInv x wc L v n i [] bl tl LV ρ a w->
  ((v= .slice none 0 0/\LV= .nils)\/∃g cap,v= .slice (some ⟨g,0,none⟩) L.length cap/\LV= .slc 2 0 L.length cap/\ρ 2=some g)->
  0<=i.val->i.val+m=L.length+1->1<=m->((L.drop i.val.toNat).any odd1=false->∀i' ρ' a' w',NInv x wc L v n i' [] bl tl LV ρ' a' w'->Q (.exit 0) a' w')->
  ((L.drop i.val.toNat).any odd1=true->∀i' ρ' a' w',Rel wc ρ' (sN x zD n i' tl LV []) a' w'->Q .ret a' w')->Code.rounds Tryz.prog NL Q m a w:=by
 intro m
 induction m with
 | zero=>intro i ρ a w Q _ _ _ _ h;omega
 | succ m ih=>
  intro i ρ a w Q h hLV hi hm _ hq hq'
  rw [rounds_succ,zQ4]
  refine wp_seq (piece (n_4 h.fr) h.rel fun ρ1 a1 w1 e1 r1'=>?_)
  have hLV1:(v= .slice none 0 0/\LV= .nils)\/∃g cap,v= .slice (some ⟨g,0,none⟩) L.length cap/\LV= .slc 2 0 L.length cap/\ρ1 2=some g:=by
   rcases hLV with h|⟨g,cap,h1,h2,h3⟩
   ·exact .inl h
   ·exact .inr ⟨g,cap,h1,h2,e1 2 g h3⟩
  have i1:=h.go hLV e1 (ex':= [(13,.bool (decide (i.val<n.val)))]) r1' rfl
  obtain ⟨y,y1,y2⟩:=r1'.tm 13 _ rfl
  cases y2
  refine wp_seq (wp_cond (zdF y1) ?_)
  by_cases hlt:i.val<n.val
  ·rw [show decide (i.val<n.val)=true by simpa using hlt,if_pos rfl]
   refine wp_skip ?_
   show ((Code.block 1 (N5.seq N6)).seq N8).wp _ _ _ _
   refine wp_seq (wp_block (wp_seq ?_))
   rcases i1.ls with ⟨rfl,rfl,_⟩|⟨g,cap,mm,rfl,hg,htl⟩
   ·simp at hn;omega
   have hil:i.val.toNat<L.length:=by omega
   obtain ⟨kk,hkk⟩:∃kk,L[i.val.toNat]?=some kk:=⟨L[i.val.toNat],by simp [hil]⟩
   obtain ⟨g',ys,ty,hg',hrow,hys⟩:=r1'.mr.blk 2 ((L++mm).map V.i64) (by rw [htl];rfl)
   rw [hg] at hg';cases hg'
   have hyse:=zB6 hys
   subst hyse
   obtain ⟨y24,z1,z2⟩:=r1'.tm 12 _ rfl
   cases z2
   have hsz:a1.tmps.size=36:=r1'.sz
   rw [zQ5]
   refine wp_region_lit ?_
   obtain ⟨ti,tz,hti,_,hts,_,_⟩:=zGj
   have hcs:Tryz.prog.cellsOf 2=1:=by simp [Program.cellsOf,hti,hts]
   refine Go.Great.wpList_runTo nB_0.1 (some 14) nB_0.2.2 (.pointer (some ⟨g,0+i.val.toNat*1,none⟩)) w1 ?_ ?_
   ·have hsr:=ziF (P:=Tryz.prog) (t:=2) hcs (by decide) w1
    have hrun:(Instr.indexAt 96 (.slice (some ⟨g,0,none⟩) L.length cap) (.int .i64 i.val)).run Tryz.prog w1= .ok (.pointer (some ⟨g,0+i.val.toNat*1,none⟩)) w1:=by
     simp [Instr.indexAt,asIntOf,run_underlying zsq,hi,show i.val<(L.length:Int) by omega,hsr,addr_add]
    simp only [execOp,nB_0.2.1,zdF i1.hv,zdF z1,Sem.run_bind,hrun,Result.andThen_ok,Sem.run_pure]
   have f1:(a1.put (some 14) (.pointer (some ⟨g,0+i.val.toNat*1,none⟩))).tmps[14]?=some (.pointer (some ⟨g,0+i.val.toNat*1,none⟩)):=by rw [za8 (by omega),if_pos rfl]
   have g1:(a1.put (some 14) (.pointer (some ⟨g,0+i.val.toNat*1,none⟩))).tmps.size=36:=by rw [zfi,hsz]
   have hcell:w1.cell? ⟨g,0+i.val.toNat*1,none⟩=some (iv64 kk):=by
    rw [cell_of_row w1 g _ _ ty _ hrow]
    simp only [Nat.zero_add,Nat.mul_one,List.getElem?_toArray,List.getElem?_map]
    rw [List.getElem?_append_left hil,hkk];rfl
   refine Go.Great.wpList_runTo nB_1.1 (some 15) nB_1.2.2 (iv64 kk) w1 ?_ ?_
   ·have hagg:=Y2.run_agg (b:=false) (by kernel_rfl) w1
    have hag:(isAgg 2).run Tryz.prog w1= .ok false w1:=hagg
    simp only [execOp,nB_1.2.1,zdF f1,Instr.loadAt,Instr.sureAddr,loadVar,hag,Sem.run_bind,Sem.run_pure,Result.andThen_ok,Bool.false_eq_true,if_false,run_load,hcell]
   generalize hA2:a1.put (some 14) (.pointer (some ⟨g,0+i.val.toNat*1,none⟩))=a2 at *
   have f2:(a2.put (some 15) (iv64 kk)).tmps[15]?=some (iv64 kk):=by rw [za8 (by omega),if_pos rfl]
   have g2:(a2.put (some 15) (iv64 kk)).tmps.size=36:=by rw [zfi,g1]
   refine Go.Great.wpList_runTo nB_2.1 (some 4) nB_2.2.2 (iv64 kk) w1 (by simp only [execOp,nB_2.2.1,Sem.run_pure,zdF f2]) ?_
   refine wpList_nil ?_
   show N6.wp _ _ _ _
   have r2:Rel wc ρ1 (sN x zI n i tl LV [(4,.i64 kk)]) ((a2.put (some 15) (iv64 kk)).put (some 4) (iv64 kk)) w1:=by
    refine ⟨fun t' u hu=>?_,by rw [zfi,g2];rfl,?_,r1'.mr⟩
    ·simp only [sN,List.cons_append,List.nil_append,zbz] at hu
     by_cases h7:4=t'
     ·subst h7
      simp at hu;subst hu
      exact ⟨iv64 kk,by rw [za8 (by omega),if_pos rfl],.i64 _⟩
     ·rw [if_neg h7] at hu
      have hu':lk (sN x zI n i tl LV [(13,.bool (decide (i.val<n.val)))]).tm t'=some u/\t'≠14/\t'≠15:=by
       simp only [sN,List.cons_append,List.nil_append,zbz]
       by_cases h25:13=t'
       ·subst h25;simp [lk] at hu
       ·rw [if_neg h25]
        refine ⟨hu,?_,?_⟩
        ·rintro rfl;simp [lk] at hu
        ·rintro rfl;simp [lk] at hu
      obtain ⟨y,y1,y2⟩:=r1'.tm t' u hu'.1
      refine ⟨y,?_,y2⟩
      rw [za8 (by omega),if_neg (fun e=>h7 e.symm),za8 (by omega),if_neg hu'.2.2,<- hA2,za8 (by omega),if_neg hu'.2.1]
      exact y1
    ·rw [zlm,zlm,<- hA2,zlm];exact r1'.df
   have i2:NInv x wc L (.slice (some ⟨g,0,none⟩) L.length cap) n i [(4,.i64 kk)] bl tl LV ρ1 ((a2.put (some 15) (iv64 kk)).put (some 4) (iv64 kk)) w1:=by
    refine ⟨r2,i1.fr,?_,i1.ls⟩
    rw [za8 (by omega),if_neg (by decide),za8 (by omega),if_neg (by decide),<- hA2,za8 (by omega),if_neg (by decide)]
    exact i1.hv
   have hdrop:L.drop i.val.toNat=kk::L.drop (i.val.toNat+1):=by
    have hkk':L[i.val.toNat]=kk:=by rw [List.getElem?_eq_getElem hil] at hkk;simpa using hkk
    rw [List.drop_eq_getElem_cons hil,hkk']
   have ev:(Rng.w .i64 (i.val+1)).val=i.val+1:=wi (by omega) (by omega)
   rw [hdrop,List.any_cons] at hq hq'
   have q6:=n_6 (x:=x) (n:=n) (i:=i) (k:=kk) i2.fr
   cases hc1:odd1 kk
   ·rw [hc1,cond_false] at q6
    refine piece q6 i2.rel fun ρ3 a3 w3 e3 r3=>?_
    have i3:=i2.go hLV1 e3 (ex':= []) r3 rfl
    have hLV3:(Value.slice (some ⟨g,0,none⟩) L.length cap= .slice none 0 0/\LV= .nils)\/∃g' cap',Value.slice (some ⟨g,0,none⟩) L.length cap= .slice (some ⟨g',0,none⟩) L.length cap'/\LV= .slc 2 0 L.length cap'/\ρ3 2=some g':=by
     rcases hLV1 with h|⟨g',cap',h1,h2,h3⟩
     ·exact .inl h
     ·exact .inr ⟨g',cap',h1,h2,e3 2 g' h3⟩
    refine piece (n_8 i3.fr) i3.rel fun ρ4 a4 w4 e4 r4=>?_
    have i4:=i3.go hLV3 e4 (ex':= []) r4 rfl
    rw [hc1,Bool.false_or] at hq hq'
    refine ih (.w .i64 (i.val+1)) ρ4 a4 w4 Q i4 ?_ (by rw [ev];omega) (by rw [ev];omega) (by omega) ?_ ?_
    ·rcases hLV3 with h|⟨g',cap',h1,h2,h3⟩
     ·exact .inl h
     ·exact .inr ⟨g',cap',h1,h2,e4 2 g' h3⟩
    ·rw [ev,show (i.val+1).toNat=i.val.toNat+1 by omega];exact hq
    ·rw [ev,show (i.val+1).toNat=i.val.toNat+1 by omega];exact hq'
   ·rw [hc1,cond_true] at q6
    refine piece q6 i2.rel fun ρ3 a3 w3 e3 r3=>?_
    rw [hc1,Bool.true_or] at hq'
    exact hq' rfl i ρ3 a3 w3 r3
  ·rw [show decide (i.val<n.val)=false by simpa using hlt,if_neg (by decide)]
   refine wp_exit ?_
   have hd:L.drop i.val.toNat= []:=List.drop_eq_nil_of_le (by omega)
   rw [hd] at hq
   refine hq rfl i ρ1 a1 w1 ⟨?_,i1.fr,i1.hv,i1.ls⟩
   exact ⟨fun t' u hu=>r1'.tm t' u (by
    simp only [sN,List.cons_append,List.nil_append,zbz] at hu ⊢
    by_cases h25:13=t'
    ·subst h25;simp [lk] at hu
    ·rw [if_neg h25];exact hu),r1'.sz,r1'.df,r1'.mr⟩
noncomputable def zcW (x:Iv):Iv:=bif !(zb5 x) then zD else bif (ziG x 1000 (k0 x)).any odd1 then zD else endN x
theorem zI2 (x:Iv) {ρ:Nat->Option Nat} {xs:List Value} {w:World} (hv:VRs ρ [enc x] xs) (ha:Am w):
  Does Tryz.prog 270 xs.toArray w fun v w'=>(∀ρ,VR ρ (enc (zcW x)) v)/\Below w.heap.size w w':=by
 refine zsW BN (vs:= [enc x]) (show 1<=BN.fn.ntmps from Nat.le_of_ble_eq_true (by kernel_rfl)) hv rfl ha fun a hR=>?_
 have hres:∀(o:Iv) (tm:List (Nat×V)) (bs:List (Nat×List V)) (n:Nat),resv (P:=Tryz.prog) TbN.T ⟨(2,.ptr 1 0)::tm,36,⟨(1,zko o)::bs,n,0⟩⟩ BN.fn.results.toList=some [enc o]:=by
  intro o tm bs n;kernel_rfl
 have fin:∀(o:Iv) (tm:List (Nat×V)) (bs:List (Nat×List V)) (n:Nat) (ρ':Nat->Option Nat) (a':Act) (w':World),o=zcW x->Rel w ρ' ⟨(2,.ptr 1 0)::tm,36,⟨(1,zko o)::bs,n,0⟩⟩ a' w'->
   bodyPost Tryz.prog BN.fn (fun e w'=>∃v,e= .returned v/\(∀ρ,VR ρ (enc (zcW x)) v)/\Below w.heap.size w w') .ret a' w':=by
  intro o tm bs n ρ' a' w' ho hr
  obtain ⟨z,z1,z2⟩:=zmx (P:=Tryz.prog) hr (hres o tm bs n)
  subst ho
  exact ⟨hr.df,z,z1,z,rfl,fun ρ2=>z2.pf rfl,hr.mr.bel⟩
 have fin1:∀(o:Iv) (ρ':Nat->Option Nat) (a':Act) (w':World) (tm:List (Nat×V)) (bs:List (Nat×List V)) (n:Nat),lk tm 2=some (.ptr 1 0)->lk bs 1=some (zko o)->o=zcW x->Rel w ρ' ⟨tm,36,⟨bs,n,0⟩⟩ a' w'->
   bodyPost Tryz.prog BN.fn (fun e w'=>∃v,e= .returned v/\(∀ρ,VR ρ (enc (zcW x)) v)/\Below w.heap.size w w') .ret a' w':=by
  intro o ρ' a' w' tm bs n h2 h1 ho hr
  refine fin o [] [] n ρ' a' w' ho ⟨fun t' u hu=>hr.tm t' u ?_,hr.sz,hr.df,⟨fun b cs hb=>hr.mr.blk b cs ?_,hr.mr.inj,hr.mr.fresh,hr.mr.dom,hr.mr.own,hr.mr.bel,hr.mr.lon,hr.mr.am⟩⟩
  ·simp only [zbz] at hu
   by_cases h4:2=t'
   ·subst h4;simp at hu;subst hu;exact h2
   ·rw [if_neg h4] at hu;simp [lk] at hu
  ·simp only [zbz] at hb
   by_cases h4:1=b
   ·subst h4;simp at hb;subst hb;exact h1
   ·rw [if_neg h4] at hb;simp [lk] at hb
 rw [zRb]
 refine wp_seq (piece (n_0 x) hR fun ρ1 a1 w1 e1 r1=>?_)
 have q1:=n_1 x
 cases hang:zb5 x
 ·rw [hang,Bool.not_false,cond_true] at q1
  refine wp_seq (piece q1 r1 fun ρ2 a2 w2 e2 r2=>?_)
  exact fin1 zD ρ2 a2 w2 _ _ _ rfl rfl (by simp only [zcW,hang,Bool.not_false,cond_true]) r2
 rw [hang,Bool.not_true,cond_false] at q1
 refine wp_seq (piece q1 r1 fun ρ3 a3 w3 e3 r3=>?_)
 show ((N3.seq (.block 0 (.loop NL))).seq N9).wp _ _ _ _
 refine wp_seq (wp_seq ?_)
 rw [zQ6]
 refine wp_region_lit ?_
 refine zGX (n_3 x) nA_0.1 (by rw [nA_0.2];rfl) r3 fun ρ4 a4 w4 e4 r4=>?_
 rw [nA_0.2] at r4
 obtain ⟨y21,p1,p2⟩:=r4.tm 9 (enc x) rfl
 have hb1:=r4.mr.bel
 refine wpList_plain nA_1.1 fun K hK=>?_
 have ecall:(execOp a4.eval (nA 1)).run Tryz.prog w4=(callFunc 247 [y21].toArray).run Tryz.prog w4:=by
  simp only [execOp,nA_1.2.1,resolve,List.map_toArray,List.map_cons,List.map_nil,zdF p1]
  rfl
 unfold Oper.wp
 rw [ecall]
 refine zxQ x (.cons p2 .nil) r4.mr.amb (nA 1) a4 K _ fun v w5 hvw=>hK _ _ ?_
 obtain ⟨hown,hbel⟩:=hvw
 rw [nA_1.2.2]
 have hsz:a4.tmps.size=36:=r4.sz
 have s1:(a4.put (some 10) v).tmps.size=36:=by rw [zfi,hsz]
 have f22:(a4.put (some 10) v).tmps[10]?=some v:=by rw [za8 (by omega),if_pos rfl]
 have hlen:=zvR x 1000 (k0 x)
 generalize hL:ziG x 1000 (k0 x)=L at *
 obtain ⟨av,cv,hve⟩:=zGU hown
 refine Go.Great.wpList_runTo nA_2.1 (some 11) nA_2.2.2 (.int .i64 (L.length:Int)) w5 ?_ ?_
 ·have hrun:(Builtin.len_ #[96] (nA 2).type #[v]).run Tryz.prog w5= .ok (.int .i64 (L.length:Int)) w5:=by
   have h1:(#[96]:Array TypeId)[0]?=some 96:=rfl
   have h2:(#[v]:Array Value)[0]?=some (.slice av L.length cv):=by rw [hve];rfl
   simp only [Builtin.len_,h1,h2,Sem.run_bind,run_underlying zsq,Result.andThen_ok,Sem.run_pure,goInt]
  simp only [execOp,nA_2.2.1,resolve,invoke,builtin,pure_bind,List.map_toArray,List.map_cons,List.map_nil,zdF f22,Sem.run_bind,Sem.run_pure,hrun,Result.andThen_ok]
 have s2:((a4.put (some 10) v).put (some 11) (.int .i64 (L.length:Int))).tmps.size=36:=by rw [zfi,s1]
 refine Go.Great.wpList_runTo nA_3.1 (some 12) nA_3.2.2 (.int .i64 0) w5 (by simp only [execOp,nA_3.2.1,Act.eval,Sem.run_pure]) ?_
 have s3:(((a4.put (some 10) v).put (some 11) (.int .i64 (L.length:Int))).put (some 12) (.int .i64 0)).tmps.size=36:=by rw [zfi,s2]
 have g22:(((a4.put (some 10) v).put (some 11) (.int .i64 (L.length:Int))).put (some 12) (.int .i64 0)).tmps[10]?=some v:=by rw [za8 (by omega),if_neg (by decide),za8 (by omega),if_neg (by decide),za8 (by omega),if_pos rfl]
 have g23:(((a4.put (some 10) v).put (some 11) (.int .i64 (L.length:Int))).put (some 12) (.int .i64 0)).tmps[11]?=some (.int .i64 (L.length:Int)):=by rw [za8 (by omega),if_neg (by decide),za8 (by omega),if_pos rfl]
 have g24:(((a4.put (some 10) v).put (some 11) (.int .i64 (L.length:Int))).put (some 12) (.int .i64 0)).tmps[12]?=some (.int .i64 0):=by rw [za8 (by omega),if_pos rfl]
 have gold:∀t',t'≠10->t'≠11->t'≠12->(((a4.put (some 10) v).put (some 11) (.int .i64 (L.length:Int))).put (some 12) (.int .i64 0)).tmps[t']?=a4.tmps[t']?:=fun t' h1 h2 h3=>by
  rw [za8 (by omega),if_neg h3,za8 (by omega),if_neg h2,za8 (by omega),if_neg h1]
 have gdf:(((a4.put (some 10) v).put (some 11) (.int .i64 (L.length:Int))).put (some 12) (.int .i64 0)).defers= []:=by rw [zlm,zlm,zlm];exact r4.df
 generalize ((a4.put (some 10) v).put (some 11) (.int .i64 (L.length:Int))).put (some 12) (.int .i64 0)=a6 at *
 refine wpList_nil ?_
 show (Code.block 0 (.loop NL)).wp _ _ _ _
 have hnv:(Rng.w .i64 (L.length:Int)).val=L.length:=wi (by omega) (by omega)
 have mk:∀(ρ5:Nat->Option Nat) (tl:List (Nat×List V)) (LV:V),Ext ρ4 ρ5->VR ρ5 LV v->(∀b r,ρ5 b=some r->ρ4 b=some r\/(b=2/\w4.heap.size<=r/\r<w5.heap.size))->
   (∀b cs,lk tl b=some cs->∃r xs t,ρ5 b=some r/\w5.heap[r]?=some (.cells xs.toArray t (0,0))/\VRs ρ5 cs xs)->Rel w ρ5 (sN x zI (.w .i64 (L.length:Int)) ⟨0,rfl⟩ tl LV []) a6 w5:=by
  intro ρ5 tl LV he hLV hnew htl
  have old:∀b r,ρ4 b=some r->r<w4.heap.size:=r4.mr.dom
  refine ⟨fun t' u hu=>?_,s3,gdf,⟨fun b cs hb=>?_,fun b b' r h1 h2=>?_,fun b hb=>?_,fun b r hr=>?_,fun b r _ hr=>?_,hb1.trans (hbel.mono hb1.size),Nat.zero_le _,r4.mr.am⟩⟩
  ·simp only [sN,List.nil_append,zbz] at hu
   by_cases h1:1=t'
   ·subst h1;simp at hu;subst hu
    obtain ⟨y,y1,y2⟩:=r4.tm 1 (.ptr 0 0) rfl
    exact ⟨y,by rw [gold 1 (by decide) (by decide) (by decide)];exact y1,y2.mono he⟩
   rw [if_neg h1] at hu
   by_cases h4:2=t'
   ·subst h4;simp at hu;subst hu
    obtain ⟨y,y1,y2⟩:=r4.tm 2 (.ptr 1 0) rfl
    exact ⟨y,by rw [gold 2 (by decide) (by decide) (by decide)];exact y1,y2.mono he⟩
   rw [if_neg h4] at hu
   by_cases h22:10=t'
   ·subst h22;simp at hu;subst hu;exact ⟨v,g22,hLV⟩
   rw [if_neg h22] at hu
   by_cases h23:11=t'
   ·subst h23;simp at hu;subst hu
    refine ⟨_,g23,?_⟩
    have:=VR.i64 (ρ:=ρ5) (Rng.w .i64 (L.length:Int))
    rw [hnv] at this;exact this
   rw [if_neg h23] at hu
   by_cases h24:12=t'
   ·subst h24;simp at hu;subst hu;exact ⟨_,g24,.i64 _⟩
   rw [if_neg h24] at hu;simp [lk] at hu
  ·have keep:∀b cs,lk (s1N x zI).mm.blks b=some cs->∃r xs t,ρ5 b=some r/\w5.heap[r]?=some (.cells xs.toArray t (0,0))/\VRs ρ5 cs xs:=fun b cs hb=>by
    obtain ⟨r,xs,t',h1,h2,h3⟩:=r4.mr.blk b cs hb
    exact ⟨r,xs,t',he _ _ h1,by rw [hbel.block r (old b r h1)];exact h2,h3.mono he⟩
   simp only [sN,zbz] at hb
   by_cases h2:1=b
   ·subst h2;simp at hb;subst hb;exact keep 1 _ rfl
   rw [if_neg h2] at hb
   by_cases h1:0=b
   ·subst h1;simp at hb;subst hb;exact keep 0 _ rfl
   rw [if_neg h1] at hb
   exact htl b cs hb
  ·rcases hnew b r h1 with h1|h1<;>rcases hnew b' r h2 with h2|h2
   ·exact r4.mr.inj b b' r h1 h2
   ·have:=old b r h1;omega
   ·have:=old b' r h2;omega
   ·omega
  ·have hb3:3<=b:=hb
   cases hr:ρ5 b with
   | none=>rfl
   | some r=>
    rcases hnew b r hr with h1|h1
    ·have:=r4.mr.fresh b (show 2<=b by omega)
     rw [this] at h1;cases h1
    ·omega
  ·rcases hnew b r hr with h1|h1
   ·have h2:=old b r h1;have h3:=hbel.size;omega
   ·exact h1.2.2
  ·rcases hnew b r hr with h1|h1
   ·exact r4.mr.own b r (Nat.zero_le _) h1
   ·have h2:=hb1.size;omega
 have run:∀(ρ5:Nat->Option Nat) (bl:List Nat) (tl:List (Nat×List V)) (LV:V),NInv x w L v (.w .i64 (L.length:Int)) ⟨0,rfl⟩ [] bl tl LV ρ5 a6 w5->
   ((v= .slice none 0 0/\LV= .nils)\/∃g cap,v= .slice (some ⟨g,0,none⟩) L.length cap/\LV= .slc 2 0 L.length cap/\ρ5 2=some g)->
   (Code.block 0 (.loop NL)).wp Tryz.prog (Exit.then (N9.wp Tryz.prog (bodyPost Tryz.prog BN.fn (fun e w'=>∃v,e= .returned v/\(∀ρ,VR ρ (enc (zcW x)) v)/\Below w.heap.size w w'))) (bodyPost Tryz.prog BN.fn (fun e w'=>∃v,e= .returned v/\(∀ρ,VR ρ (enc (zcW x)) v)/\Below w.heap.size w w'))) a6 w5:=by
  intro ρ5 bl tl LV hi hLV
  refine wp_block (wp_loop_rounds (L.length+1) (zFo hnv (by omega) (L.length+1) ⟨0,rfl⟩ _ _ _ _ hi hLV (by decide) (by simp) (by omega) (fun hany i' ρ6 a7 w7 hh=>?_) (fun hany i' ρ6 a7 w7 hh=>?_)))
  ·show N9.wp _ _ _ _
   refine piece (n_9 hh.fr) hh.rel fun ρ7 a8 w8 e8 r8=>?_
   refine fin (endN x) [] [] 3 ρ7 a8 w8 ?_ r8
   have hany':L.any odd1=false:=hany
   simp only [zcW,hang,Bool.not_true,cond_false,hL,hany']
  ·have hany':L.any odd1=true:=hany
   exact fin1 zD ρ6 a7 w7 _ _ _ rfl rfl (by simp only [zcW,hang,Bool.not_true,cond_false,hL,hany',cond_true]) hh
 rcases hown with ⟨rfl,hLn⟩|⟨g,cap,m,rfl,h2,h3,h4⟩
 ·refine run ρ4 [1,0] [] .nils ⟨mk ρ4 [] .nils (Ext.refl _) .nils (fun b r h=> .inl h) (fun b cs h=>by simp [lk] at h),.nil,g22,.inl ⟨rfl,hLn,rfl⟩⟩ (.inl ⟨rfl,rfl⟩)
 ·have hgs:g<w5.heap.size:=(Array.getElem?_eq_some_iff.1 h3).1
  have hn3:ρ4 2=none:=r4.mr.fresh 2 (show 2<=2 by omega)
  have hE:Ext ρ4 (fun b=>if b=2 then some g else ρ4 b):=fun b r hr=>by
   by_cases hb:b=2
   ·subst hb;rw [hn3] at hr;cases hr
   ·simp [hb,hr]
  have h33:(fun b=>if b=2 then some g else ρ4 b:Nat->Option Nat) 2=some g:=by simp
  refine run _ [1,0,2] [(2,(L++m).map V.i64)] (.slc 2 0 L.length cap) ⟨mk _ _ _ hE (.slc h33) (fun b r hr=>?_) (fun b cs hb=>?_),.slc _ _ _,g22,.inr ⟨g,cap,m,rfl,h33,rfl⟩⟩ (.inr ⟨g,cap,rfl,rfl,h33⟩)
  ·split at hr
   ·cases hr;exact .inr ⟨by assumption,h2,hgs⟩
   ·exact .inl hr
  ·simp only [zbz] at hb
   by_cases h:2=b
   ·subst h;simp at hb;subst hb
    exact ⟨g,(L++m).map iv64,_,h33,h3,by simpa using zGc (L++m)⟩
   ·rw [if_neg h] at hb;simp [lk] at hb
noncomputable def zDM:Ent Tryz.prog where
 id:=270
 g:=fun _ _=>true
 fn:=fun vs _=>match vs with
  | [x]=>match (dec x:Option Iv) with
   | some x=>some (enc (zcW x))
   | _=>none
  | _=>none
 ok:=fun vs m v _ hf w0 ρ xs w hv hm=>by
  split at hf<;>try (cases hf;done)
  split at hf<;>try (cases hf;done)
  rename_i x hx
  cases hf
  have e1:=Enc.dec_enc _ _ hx
  subst e1
  exact (zI2 x hv hm.amb).mono fun v w' h=>⟨h.1 ρ,h.2⟩
end Go.Proofs.YtaoakfodkoifoaaGreat.Ev
namespace Go.Proofs.YtaoakfodkoifoaaGreat.Ev
open Go
theorem zI1 (x:Iv) (p q:I64) (hk1:(k1 x).val<=4000):∀(n:Nat) (k:I64),1<=n->(k1 x).val-k.val+1<n-> -5000<=k.val->
  ∃k',(Lf2 zjR n ⟨k,x.lo,x.hi,p,q⟩).opt=some ⟨(ziG x n k).any odd1,⟨k',x.lo,x.hi,bif (ziG x n k).any odd1 then zaW.lo else p,bif (ziG x n k).any odd1 then zaW.hi else q⟩⟩:=by
 intro n
 induction n with
 | zero=>intro k h;omega
 | succ n ih=>
  intro k _ hn hlow
  have ek1:(Rng.w .i64 ((zY x.hi).val+1))=k1 x:=by unfold k1;rw [zgM]
  by_cases hk:k.val<=(k1 x).val
  ·have ev:(Rng.w .i64 (k.val+1)).val=k.val+1:=wi (by omega) (by omega)
   have ihk:=ih (.w .i64 (k.val+1)) (by omega) (by rw [ev];omega) (by rw [ev];omega)
   have hd:decide (k.val<=(k1 x).val)=true:=by simpa using hk
   have hx:(⟨x.lo,x.hi⟩:Iv)=x:=rfl
   simp only [Lf2,zjR,ek1,hd,cond_true,Tr.bind,Tr.opt,ziG,zsJ,ziP,hx]
   cases hodd:(Rng.w .i64 (zbI .and .i64 k.val 1)).val==1
   ·have ho:odd1 k=false:=hodd
    simp only [cond_false]
    cases hov:zaR (zP k) x
    ·simp only [cond_false];exact ihk
    ·simp only [cond_true,List.any_cons,ho,Bool.false_or];exact ihk
   ·have ho:odd1 k=true:=hodd
    simp only [cond_true]
    cases hov:zaR (zP k) x
    ·simp only [cond_false];exact ihk
    ·exact ⟨k,by simp only [cond_true,List.any_cons,ho,Bool.true_or]⟩
  ·have hd:decide (k.val<=(k1 x).val)=false:=by simpa using hk
   exact ⟨k,by simp only [Lf2,zjR,ek1,hd,cond_false,Tr.bind,Tr.opt,ziG,List.any_nil]⟩
theorem zNa (x:Iv):(zqM x).opt=some (zcW x):=by
 have hb:=k_bd x
 simp only [zqM,Tr.opt,zcW,zv0]
 cases zb7 x
 ·simp only [Bool.not_false,cond_true]
  rw [za1,zbU]
 simp only [Bool.not_true,cond_false]
 have ek0:(Rng.w .i64 ((zY x.lo).val-1))=k0 x:=by unfold k0;rw [zgM]
 rw [ek0]
 obtain ⟨k',h⟩:=zI1 x ⟨0,rfl⟩ ⟨0,rfl⟩ (by omega) 1000 (k0 x) (by decide) (by omega) (by omega)
 have g:zoM ⟨k0 x,x.lo,x.hi,⟨0,rfl⟩,⟨0,rfl⟩⟩=true:=by unfold zoM;rw [h];rfl
 have l:zr4 ⟨k0 x,x.lo,x.hi,⟨0,rfl⟩,⟨0,rfl⟩⟩=_:=Tr.zai h
 rw [g,l]
 simp only [cond_true]
 cases (ziG x 1000 (k0 x)).any odd1
 ·simp only [cond_false,endN,zlC,zjQ,zy6,zEX]
 ·simp only [cond_true]
  rw [za1,<- zbU]
theorem zLn (x:Iv):zcW x=zwl x:=(Tr.zai (zNa x)).symm
end Go.Proofs.YtaoakfodkoifoaaGreat.Ev
namespace Go.Proofs.YtaoakfodkoifoaaGreat.Ev
open Go
theorem quoS {x m:Int} (hx: -4294967296<=x/\x<=4294967296) (hm:1<=m): -4294967296<=x*4294967296/(m*4294967296)/\x*4294967296/(m*4294967296)<=4294967296 /\ -4294967296 <= -x*4294967296/(m*4294967296) /\ -x*4294967296/(m*4294967296)<=4294967296 /\
  x*4294967296/(m*4294967296) <= -(-x*4294967296/(m*4294967296)):=by
 rw [Int.mul_ediv_mul_of_pos_left _ _ (by decide),Int.mul_ediv_mul_of_pos_left _ _ (by decide)]
 have h1:=zq4 (M:=4294967296) (N:=x) (d:=m) (by omega) (by omega) (by omega)
 have h3:=zq4 (M:=4294967296) (N:= -x) (d:=m) (by omega) (by omega) (by omega)
 have h4: -x/m <= -(x/m):=by
  have e1:=Int.mul_ediv_add_emod x m
  have e2:=Int.emod_nonneg x (show m≠0 by omega)
  have hh: -x<=m * -(x/m):=by rw [Int.mul_neg];omega
  have h5: -x/m<=(m * -(x/m))/m:=Int.ediv_le_ediv (by omega) hh
  rw [Int.mul_ediv_cancel_left _ (by omega)] at h5
  exact h5
 omega
def InR (a:Iv):Prop:= -4294967296<=a.lo.val/\a.lo.val<=a.hi.val/\a.hi.val<=4294967296
theorem InR.ok {a:Iv} (h:InR a):za a=true:=(zaB a).2 (by unfold InR at h;omega)
theorem divS {y:Iv} {n:I64} (hy:InR y) (hn:1<=n.val/\n.val<=1000000):InR (zo y (zf n)):=by
 have h1:=hy
 unfold InR at h1
 rw [zjP (by omega)]
 have ev:(Rng.w .i64 (n.val*4294967296)).val=n.val*4294967296:=wi (by omega) (by omega)
 obtain ⟨lo,hi,e,h⟩:=zDy (a:=y) (b:=⟨.w .i64 (n.val*4294967296),.w .i64 (n.val*4294967296)⟩) (L:= -4294967296) (H:=4294967296) hy.ok ((zaB _).2 (by simp only [ev];omega))
  (by simp only [zaO,zcc,Tr.get,zdp,ev];simp;omega) (by decide) (by decide) (fun x z hx hz=>by
   have hz':z= .w .i64 (n.val*4294967296):=by rcases hz with h|h<;>exact h
   subst hz'
   have hx1: -4294967296<=x.val/\x.val<=4294967296:=by rcases hx with rfl|rfl<;>omega
   obtain ⟨q1,q2,q3,q4,q5⟩:=quoS hx1 hn.1
   have en:(Rng.w .i64 (0-x.val)).val= -x.val:=by rw [wi (by omega) (by omega)];omega
   have m1:MD x ⟨4294967296,rfl⟩ (.w .i64 (n.val*4294967296))=⟨.w .i64 (x.val*4294967296/(n.val*4294967296)),true⟩:=by
    unfold MD;rw [if_pos (by rw [ev];omega),ev];exact zfj (v:=x.val*4294967296/(n.val*4294967296)) (by omega) (by omega)
   have m2:MD (.w .i64 (0-x.val)) ⟨4294967296,rfl⟩ (.w .i64 (n.val*4294967296))=⟨.w .i64 (-x.val*4294967296/(n.val*4294967296)),true⟩:=by
    unfold MD;rw [if_pos (by rw [ev];omega),ev,en];exact zfj (v:= -x.val*4294967296/(n.val*4294967296)) (by omega) (by omega)
   have o1:zJ x=true:=ok3 (by omega)
   have o2:zJ (.w .i64 (0-x.val))=true:=ok3 (by rw [en];omega)
   have o3:zJ (.w .i64 (n.val*4294967296))=true:=ok3 (by rw [ev];omega)
   have z0:((Rng.w .i64 (n.val*4294967296)).val==0)=false:=by rw [ev];simp;omega
   have z1:decide ((Rng.w .i64 (n.val*4294967296)).val<0)=false:=by rw [ev];simp;omega
   have d1:zO x (.w .i64 (n.val*4294967296))=⟨.w .i64 (x.val*4294967296/(n.val*4294967296)),true⟩:=by
    simp only [zO,zbO,Tr.get,o1,o3,z0,z1,Bool.not_true,cond_false,zeL,m1]
    rw [zpI (by rw [wi (by omega) (by omega)];omega)]
   have d2:zO (.w .i64 (0-x.val)) (.w .i64 (n.val*4294967296))=⟨.w .i64 (-x.val*4294967296/(n.val*4294967296)),true⟩:=by
    simp only [zO,zbO,Tr.get,o2,o3,z0,z1,Bool.not_true,cond_false,zeL,m2]
    rw [zpI (by rw [wi (by omega) (by omega)];omega)]
   have d3:z8 x (.w .i64 (n.val*4294967296))=⟨.w .i64 (0 - -x.val*4294967296/(n.val*4294967296)),true⟩:=by
    simp only [z8,zdK,Tr.get,o1,d2,Bool.not_true,cond_false]
    rw [wi (n:= -x.val*4294967296/(n.val*4294967296)) (by omega) (by omega)]
   refine ⟨_,_,d1,d3,?_,?_,?_⟩
   ·rw [wi (by omega) (by omega)];omega
   ·rw [wi (by omega) (by omega),wi (by omega) (by omega)];omega
   ·rw [wi (by omega) (by omega)];omega)
 rw [e];exact h
theorem zL7 {x y:I64} (hx: -2147483648<=x.val/\x.val<=2147483648) (hy:0<=y.val/\y.val<=8589934592):
  ∃d u,zW x y=⟨d,true⟩/\zau x y=⟨u,true⟩ /\ -4294967296<=d.val/\d.val<=u.val/\u.val<=4294967296:=by
 have h1:x.val*y.val<=2147483648*8589934592:=by
  by_cases h:0<=x.val
  ·exact Int.mul_le_mul hx.2 hy.2 hy.1 (by decide)
  ·have:=Int.mul_nonneg (show 0 <= -x.val by omega) hy.1
   rw [Int.neg_mul] at this;omega
 have h2: -(2147483648*8589934592)<=x.val*y.val:=by
  by_cases h:0<=x.val
  ·have:=Int.mul_nonneg h hy.1;omega
  ·have:=Int.mul_le_mul (a:= -x.val) (b:=y.val) (c:=2147483648) (d:=8589934592) (by omega) hy.2 hy.1 (by decide)
   rw [Int.neg_mul] at this;omega
 have e1:=zhv (a:=x) (b:=y) (ok3 (by omega)) (ok3 (by omega)) (by omega)
 have e2:=zpC (a:=x) (b:=y) (ok3 (by omega)) (ok3 (by omega)) (by omega)
 refine ⟨_,_,e1,e2,?_,?_,?_⟩
 ·rw [wi (by omega) (by omega)];omega
 ·rw [wi (by omega) (by omega),wi (by omega) (by omega)];omega
 ·rw [wi (by omega) (by omega)];omega
def In02 (a:Iv):Prop:=0<=a.lo.val/\a.lo.val<=a.hi.val/\a.hi.val<=8589934592
def InH (a:Iv):Prop:= -2147483648<=a.lo.val/\a.lo.val<=a.hi.val/\a.hi.val<=2147483648
theorem In02.ok {a:Iv} (h:In02 a):za a=true:=(zaB a).2 (by unfold In02 at h;omega)
theorem InH.ok {a:Iv} (h:InH a):za a=true:=(zaB a).2 (by unfold InH at h;omega)
theorem mulS {a b:Iv} (ha:InH a) (hb:In02 b):InR (zk a b):=by
 have h1:=ha;have h2:=hb
 unfold InH at h1;unfold In02 at h2
 obtain ⟨lo,hi,e,h⟩:=zvH (L:= -4294967296) (H:=4294967296) ha.ok hb.ok (by decide) (by decide) (fun x y hx hy=>by
  obtain ⟨d,u,k1,k2,k3,k4,k5⟩:=zL7 (x:=x) (y:=y) (by rcases hx with rfl|rfl<;>omega) (by rcases hy with rfl|rfl<;>omega)
  exact ⟨d,u,k1,k2,k3,k4,k5⟩)
 rw [e];exact h
theorem zKI:zaw=⟨⟨4294967296,rfl⟩,⟨4294967296,rfl⟩⟩:=by rw [<- zvy,zjP (by decide)];rfl
theorem addS {a:Iv} (ha:InR a):In02 (zq zaw a):=by
 have h1:=ha
 unfold InR at h1
 have o1:za ⟨⟨4294967296,rfl⟩,⟨4294967296,rfl⟩⟩=true:=(zaB _).2 (by decide)
 rw [zKI]
 simp only [zq,zd3,Tr.get,o1,ha.ok,Bool.not_true,cond_false]
 have k1:(Rng.w .i64 (4294967296+a.lo.val)).val=4294967296+a.lo.val:=wi (by omega) (by omega)
 have k2:(Rng.w .i64 (4294967296+a.hi.val)).val=4294967296+a.hi.val:=wi (by omega) (by omega)
 rw [zbq (by rw [k1,k2];omega)]
 unfold In02
 simp only [k1,k2]
 omega
noncomputable def expS (r:Iv) (n:I64) (p:Iv):Iv:=zq zaw (zo (zk r p) (zf n))
theorem zQw {r p:Iv} {n:I64} (hr:InH r) (hp:In02 p) (hn:1<=n.val/\n.val<=1000000):In02 (expS r n p):=addS (divS (mulS hr hp) hn)
theorem zQH:In02 zaw:=by rw [zKI];unfold In02;decide
noncomputable def expP (r:Iv):Iv:=expS r ⟨1,rfl⟩ (expS r ⟨2,rfl⟩ (expS r ⟨3,rfl⟩ (expS r ⟨4,rfl⟩ (expS r ⟨5,rfl⟩ (expS r ⟨6,rfl⟩ (expS r ⟨7,rfl⟩ (expS r ⟨8,rfl⟩ (expS r ⟨9,rfl⟩ zaw))))))))
theorem zMx {r:Iv} (hr:InH r):In02 (expP r):=by
 unfold expP
 repeat' (first|exact zQH|refine zQw hr ?_ (by decide))
theorem zIT {p:Iv} (h:In02 p):zcL p ⟨1,rfl⟩=⟨.w .i64 (p.lo.val-1),.w .i64 (p.hi.val+1)⟩/\(Rng.w .i64 (p.lo.val-1)).val=p.lo.val-1/\(Rng.w .i64 (p.hi.val+1)).val=p.hi.val+1:=by
 have h1:=h
 unfold In02 at h1
 have k1:(Rng.w .i64 (p.lo.val-1)).val=p.lo.val-1:=wi (by omega) (by omega)
 have k2:(Rng.w .i64 (p.hi.val+1)).val=p.hi.val+1:=wi (by omega) (by omega)
 refine ⟨?_,k1,k2⟩
 simp only [zcL,zmk,Tr.get,h.ok,Bool.not_true,cond_false]
 exact zbq (by rw [k1,k2];omega)
theorem zEu (k:I64) (h:0<=k.val) (h':k.val<=64):∃x:Iv,(zds k).opt=some x/\za x=true/\k.val*2977044472-64<=x.lo.val/\x.lo.val<=x.hi.val/\x.hi.val<=k.val*2977044472+64:=by
 have hi:zaf k ⟨(-64),rfl⟩ ⟨64,rfl⟩=true:=by rw [zdp];simp;omega
 have hn:decide (k.val<0)=false:=by simp;omega
 obtain ⟨e1,e2,b1,b2,b3⟩:=zKO h h'
 have v1:(Rng.w .i64 (k.val*1598288580650331957/536870912)).val=k.val*1598288580650331957/536870912:=wi (by omega) (by omega)
 have v2:(Rng.w .i64 ((0-k.val)*1598288580650331958/536870912)).val=(0-k.val)*1598288580650331958/536870912:=wi (by omega) (by omega)
 have v3:(Rng.w .i64 (0-(0-k.val)*1598288580650331958/536870912)).val=0-(0-k.val)*1598288580650331958/536870912:=wi (by omega) (by omega)
 have hok: -1152921504606846976<(Rng.w .i64 (k.val*1598288580650331957/536870912)).val/\(Rng.w .i64 (k.val*1598288580650331957/536870912)).val<=(Rng.w .i64 (0-(Rng.w .i64 ((0-k.val)*1598288580650331958/536870912)).val)).val/\(Rng.w .i64 (0-(Rng.w .i64 ((0-k.val)*1598288580650331958/536870912)).val)).val<1152921504606846976:=by
  rw [v1,v2,v3];omega
 refine ⟨⟨.w .i64 (k.val*1598288580650331957/536870912),.w .i64 (0-(Rng.w .i64 ((0-k.val)*1598288580650331958/536870912)).val)⟩,?_,(zaB _).2 hok,?_,hok.2.1,?_⟩
 ·simp only [zds,Tr.opt,hi,hn,Bool.not_true,cond_false,e1,e2]
  rw [zbq hok]
 ·simp only [v1];omega
 ·simp only [v2,v3];omega
theorem zJH (k:I64) (h: -64<=k.val/\k.val<=64):k.val*2977044472-64<=(za0 k).lo.val/\(za0 k).lo.val<=(za0 k).hi.val/\(za0 k).hi.val<=k.val*2977044472+64:=by
 have hi:zaf k ⟨(-64),rfl⟩ ⟨64,rfl⟩=true:=by rw [zdp];simpa using h
 by_cases hn:k.val<0
 ·have e1:(Rng.w .i64 (0-k.val)).val=0-k.val:=wi (by omega) (by omega)
  obtain ⟨x,h1,h2,h3,h4,h5⟩:=zEu (.w .i64 (0-k.val)) (by omega) (by omega)
  have g1:zgE (.w .i64 (0-k.val))=true:=by unfold zgE;rw [h1];rfl
  have f1:zlH (.w .i64 (0-k.val))=x:=Tr.zai h1
  have hd:decide (k.val<0)=true:=by simpa using hn
  have e:za0 k=zaK x:=Tr.zai (by simp only [zfq,Tr.opt,hi,hd,g1,f1,cond_true,cond_false,Bool.not_true])
  have hb:=(zaB x).1 h2
  rw [e,zjj h2]
  simp only
  rw [wi (n:=0-x.hi.val) (by omega) (by omega),wi (n:=0-x.lo.val) (by omega) (by omega)]
  rw [e1] at h3 h5
  omega
 ·obtain ⟨x,h1,h2,h3,h4,h5⟩:=zEu k (by omega) (by omega)
  have hd:decide (k.val<0)=false:=by simpa using hn
  have e:za0 k=x:=Tr.zai (by
   simp only [zds,Tr.opt,hd] at h1
   simp only [zfq,Tr.opt,hd]
   exact h1)
  rw [e]
  exact ⟨h3,h4,h5⟩
theorem atV {n:I64} (h: -1152921504606846976<n.val/\n.val<1152921504606846976):zbk n=⟨n,n⟩:=by
 simp only [zbk,zm0,Tr.get]
 exact zbq ⟨h.1,by omega,h.2⟩
theorem zLE {n k:I64} (hn: -98784247808<=n.val/\n.val<=85899345920) (hk:k.val=(2*n.val+2977044472)/5954088944):InH (zG (zbk n) (za0 k)):=by
 have hl:=zJH k (by omega)
 have o1:za ⟨n,n⟩=true:=(zaB _).2 (by simp only;omega)
 have o2:za (za0 k)=true:=(zaB _).2 (by omega)
 rw [atV (by omega)]
 simp only [zG,zi6,Tr.get,o1,o2,Bool.not_true,cond_false]
 have k1:(Rng.w .i64 (n.val-(za0 k).hi.val)).val=n.val-(za0 k).hi.val:=wi (by omega) (by omega)
 have k2:(Rng.w .i64 (n.val-(za0 k).lo.val)).val=n.val-(za0 k).lo.val:=wi (by omega) (by omega)
 rw [zbq (by rw [k1,k2];omega)]
 unfold InH
 simp only [k1,k2]
 omega
end Go.Proofs.YtaoakfodkoifoaaGreat.Ev
namespace Go.Proofs.YtaoakfodkoifoaaGreat.Ev
open Go
noncomputable def dbl (x:Iv):Nat->Iv
 | 0=>x
 | n+1=>dbl (zcr x) n
theorem zCw (p q:I64):∀(n m:Nat) (k:I64) (x:Iv),k.val=n->n<=60->(Lf zdP (n+1+m) ⟨k,x.lo,x.hi,p,q⟩).opt=some ⟨.w .i64 (0:Int),(dbl x n).lo,(dbl x n).hi,p,q⟩:=by
 intro n
 induction n with
 | zero=>
  intro m k x hk _
  have hd:decide (k.val>0)=false:=by simp;omega
  have hz:k= .w .i64 (0:Int):=by apply Rng.ext;rw [wi (by omega) (by omega)];simpa using hk
  rw [show 0+1+m=m+1 by omega]
  simp only [Lf,zdP,hd,Tr.bind,Tr.opt,cond_false,dbl]
  rw [hz]
 | succ n ih=>
  intro m k x hk hn
  have hd:decide (k.val>0)=true:=by simp;omega
  have e1:(Rng.w .i64 (k.val-1)).val=k.val-1:=wi (by omega) (by omega)
  rw [show n+1+1+m=(n+1+m)+1 by omega]
  have:=ih m (.w .i64 (k.val-1)) (zcr x) (by rw [e1];omega) (by omega)
  simp only [Lf,zdP,hd,Tr.bind,Tr.opt,cond_true,dbl]
  exact this
theorem zFt (p q:I64) (m:Nat) (k:I64) (x:Iv) (hk:k.val<=0):(Lf zdP (m+1) ⟨k,x.lo,x.hi,p,q⟩).opt=some ⟨k,x.lo,x.hi,p,q⟩:=by
 have hd:decide (k.val>0)=false:=by simp;omega
 simp only [Lf,zdP,hd,Tr.bind,Tr.opt,cond_false]
theorem zEV (x:Iv):∀n,dbl x (n+1)=zcr (dbl x n)
 | 0=>rfl
 | n+1=>by rw [dbl,zEV (zcr x) n,dbl]
theorem zMI {x:Iv} (hx: -1<=x.lo.val/\x.lo.val<=x.hi.val/\x.hi.val<=8589934593):∀j:Nat,j<=29->dbl x j=zU (.w .i64 (x.lo.val*2^j)) (.w .i64 (x.hi.val*2^j)):=by
 intro j
 induction j with
 | zero=>
  intro _
  have h1:(Rng.w .i64 (x.lo.val*2^0)).val=x.lo.val:=by rw [wi (by omega) (by omega)];omega
  have h2:(Rng.w .i64 (x.hi.val*2^0)).val=x.hi.val:=by rw [wi (by omega) (by omega)];omega
  rw [zbq (by rw [h1,h2];omega)]
  have e1:Rng.w .i64 (x.lo.val*2^0)=x.lo:=Rng.ext h1
  have e2:Rng.w .i64 (x.hi.val*2^0)=x.hi:=Rng.ext h2
  rw [e1,e2];rfl
 | succ j ih=>
  intro hj
  rw [zEV,ih (by omega),zv5]
  have hp:(2:Int)^(j+1)=2^j*2:=Int.pow_succ ..
  have hp1:(1:Int)<=2^j:=Int.add_one_le_of_lt (Int.pow_pos (show (0:Int)<2 by decide))
  have hp2:(2:Int)^j<=268435456:=by
   have:j=0\/j=1\/j=2\/j=3\/j=4\/j=5\/j=6\/j=7\/j=8\/j=9\/j=10\/j=11\/j=12\/j=13\/j=14\/j=15\/j=16\/j=17\/j=18\/j=19\/j=20\/j=21\/j=22\/j=23\/j=24\/j=25\/j=26\/j=27\/j=28:=by omega
   rcases this with rfl|rfl|rfl|rfl|rfl|rfl|rfl|rfl|rfl|rfl|rfl|rfl|rfl|rfl|rfl|rfl|rfl|rfl|rfl|rfl|rfl|rfl|rfl|rfl|rfl|rfl|rfl|rfl|rfl<;>decide
  generalize (2:Int)^j=t at hp hp1 hp2
  rw [hp]
  have l1: -t<=x.lo.val*t:=by
   have:=Int.mul_le_mul_of_nonneg_right (show (-1:Int)<=x.lo.val by omega) (show 0<=t by omega)
   omega
  have l2:x.lo.val*t<=x.hi.val*t:=Int.mul_le_mul_of_nonneg_right hx.2.1 (by omega)
  have l3:x.hi.val*t<=8589934593*t:=Int.mul_le_mul_of_nonneg_right hx.2.2 (by omega)
  have e1:x.lo.val*(t*2)=x.lo.val*t*2:=by rw [Int.mul_assoc]
  have e2:x.hi.val*(t*2)=x.hi.val*t*2:=by rw [Int.mul_assoc]
  rw [e1,e2]
  generalize x.lo.val*t=a at *
  generalize x.hi.val*t=b at *
  have v1:(Rng.w .i64 a).val=a:=wi (by omega) (by omega)
  have v2:(Rng.w .i64 b).val=b:=wi (by omega) (by omega)
  have v3:(Rng.w .i64 (a*2)).val=a*2:=wi (by omega) (by omega)
  have v4:(Rng.w .i64 (b*2)).val=b*2:=wi (by omega) (by omega)
  by_cases hb:b<1152921504606846976
  ·have hm: -1152921504606846976<(Rng.w .i64 a).val/\(Rng.w .i64 a).val<=(Rng.w .i64 b).val/\(Rng.w .i64 b).val<1152921504606846976:=by rw [v1,v2];omega
   rw [zbq hm]
   have ho:za ⟨.w .i64 a,.w .i64 b⟩=true:=(zaB _).2 hm
   simp only [zbh,zfr,zq,zd3,Tr.get,ho,Bool.not_true,cond_false,v1,v2]
   rw [show 2*a=a*2 by omega,show 2*b=b*2 by omega]
  ·rw [zi9 (by rw [v1,v2];omega),zi9 (by rw [v3,v4];omega)]
   simp only [zbh,zfr,zq,zd3,Tr.get,zbD,Bool.not_false,ctr]
theorem zLP {k:Int} (h:0<=k) (h':k<=60):(min k.toNat 64)=k.toNat:=by omega
theorem fdiv_one (n:Int):n.fdiv 1=n:=by rw [Int.fdiv_eq_ediv_of_nonneg _ (by decide)];omega
theorem zGE {x:Iv} {k:I64} (hx: -1<=x.lo.val/\x.lo.val<=x.hi.val/\x.hi.val<=8589934593) (hk: -40<=k.val/\k.val<=29):(zej x k).opt=some (zeP x k):=by
 by_cases h0:0<=k.val
 ·obtain ⟨n,hn⟩:=Int.eq_ofNat_of_zero_le h0
  have a1:=zCw ⟨0,rfl⟩ ⟨0,rfl⟩ n (69-n) k x hn (by omega)
  rw [show n+1+(69-n)=70 by omega,zMI hx n (by omega)] at a1
  have g1:zfW ⟨k,x.lo,x.hi,⟨0,rfl⟩,⟨0,rfl⟩⟩=true:=by unfold zfW;rw [a1];rfl
  have l1:zjW ⟨k,x.lo,x.hi,⟨0,rfl⟩,⟨0,rfl⟩⟩=_:=Tr.zai a1
  have hd:decide (k.val>=0)=true:=by simpa using h0
  have hu:(Rng.w .u64 k.val).val=k.val:=wu (by omega) (by omega)
  have hs:zeP x k=zU (.w .i64 (x.lo.val*2^n)) (.w .i64 (x.hi.val*2^n)):=by
   simp only [zeP,zml,Tr.get,hd,ctr,hu,zLP h0 (by omega:k.val<=60)]
   rw [hn];rfl
  rw [hs]
  have z0:(Rng.w .i64 (0-(Rng.w .i64 (0:Int)).val)).val=0:=by rw [wi (n:=0) (by decide) (by decide),wi (by omega) (by omega)];rfl
  have zd:decide ((0:Int)<0)=false:=by decide
  simp only [zej,Tr.opt,g1,l1,ctr,z0,zd,cfl,ziH]
  generalize hmk:zU (.w .i64 (x.lo.val*2^n)) (.w .i64 (x.hi.val*2^n))=y
  have hy:za y=true\/y=zh:=by
   by_cases hm: -1152921504606846976<(Rng.w .i64 (x.lo.val*2^n)).val/\(Rng.w .i64 (x.lo.val*2^n)).val<=(Rng.w .i64 (x.hi.val*2^n)).val/\(Rng.w .i64 (x.hi.val*2^n)).val<1152921504606846976
   ·left;rw [<- hmk,zbq hm];exact (zaB _).2 hm
   ·right;rw [<- hmk];exact zi9 hm
  rcases hy with hy|hy
  ·have hb:=(zaB y).1 hy
   have e1:(Rng.w .i64 (y.lo.val.fdiv (2^min (Int.toNat 0) 64)))=y.lo:=by
    apply Rng.ext
    rw [show (2:Int)^min (Int.toNat 0) 64=1 from rfl,fdiv_one,wi (by omega) (by omega)]
   have e2:(Rng.w .i64 (0-(Rng.w .i64 ((Rng.w .i64 (0-y.hi.val)).val.fdiv (2^min (Int.toNat 0) 64))).val))=y.hi:=by
    apply Rng.ext
    rw [show (2:Int)^min (Int.toNat 0) 64=1 from rfl,fdiv_one,wi (n:=0-y.hi.val) (by omega) (by omega),wi (n:=0-y.hi.val) (by omega) (by omega),wi (by omega) (by omega)]
    omega
   simp only [hy,Bool.not_true,cfl,e1,e2]
  ·rw [hy]
   have hw:(⟨zh.lo,zh.hi⟩:Iv)=zh:=rfl
   simp only [hw,zbD,Bool.not_false,ctr,za1]
 ·have a1:=zFt ⟨0,rfl⟩ ⟨0,rfl⟩ 69 k x (by omega)
  have g1:zfW ⟨k,x.lo,x.hi,⟨0,rfl⟩,⟨0,rfl⟩⟩=true:=by unfold zfW;rw [a1];rfl
  have l1:zjW ⟨k,x.lo,x.hi,⟨0,rfl⟩,⟨0,rfl⟩⟩=_:=Tr.zai a1
  have hd:decide (k.val>=0)=false:=by simp;omega
  have ho:za ⟨x.lo,x.hi⟩=true:=(zaB _).2 (by simp only;omega)
  have e1:(Rng.w .i64 (0-k.val)).val= -k.val:=by rw [wi (by omega) (by omega)];omega
  have hu:(Rng.w .u64 (-k.val)).val= -k.val:=wu (by omega) (by omega)
  have hd2:decide (-k.val<0)=false:=by simp;omega
  simp only [zej,Tr.opt,g1,l1,ctr,e1,hd2,cfl,ziH,ho,Bool.not_true,zeP,zml,Tr.get,hd,hu]
  generalize hp:(2:Int)^min (-k.val).toNat 64=t
  have ht:1<=t:=by rw [<- hp];exact Int.add_one_le_of_lt (Int.pow_pos (show (0:Int)<2 by decide))
  have f1:x.lo.val.fdiv t=x.lo.val/t:=Int.fdiv_eq_ediv_of_nonneg _ (by omega)
  have n1:(Rng.w .i64 (0-x.hi.val)).val= -x.hi.val:=by rw [wi (by omega) (by omega)];omega
  have f2:(-x.hi.val).fdiv t= -x.hi.val/t:=Int.fdiv_eq_ediv_of_nonneg _ (by omega)
  have b1:=zq4 (M:=8589934593) (N:=x.lo.val) (d:=t) (by omega) (by omega) (by omega)
  have b2:=zq4 (M:=8589934593) (N:= -x.hi.val) (d:=t) (by omega) (by omega) (by omega)
  have b3: -x.hi.val/t <= -(x.lo.val/t):=by
   have c1:=Int.mul_ediv_add_emod x.lo.val t
   have c2:=Int.emod_nonneg x.lo.val (show t≠0 by omega)
   have hh: -x.hi.val<=t * -(x.lo.val/t):=by rw [Int.mul_neg];omega
   have h5: -x.hi.val/t<=(t * -(x.lo.val/t))/t:=Int.ediv_le_ediv (by omega) hh
   rw [Int.mul_ediv_cancel_left _ (by omega)] at h5
   exact h5
  rw [f1,n1,f2]
  have v1:(Rng.w .i64 (x.lo.val/t)).val=x.lo.val/t:=wi (by omega) (by omega)
  have v2:(Rng.w .i64 (-x.hi.val/t)).val= -x.hi.val/t:=wi (by omega) (by omega)
  have v3:(Rng.w .i64 (0-(Rng.w .i64 (-x.hi.val/t)).val)).val= -(-x.hi.val/t):=by rw [v2,wi (by omega) (by omega)];omega
  rw [zbq (by rw [v1,v3];omega)]
theorem zEH {n k:I64} (hn: -98784247808<=n.val/\n.val<=85899345920) (hk:k.val=(2*n.val+2977044472)/5954088944):
  (zej (zcL (expP (zG (zbk n) (za0 k))) ⟨1,rfl⟩) k).opt=some (zeP (zcL (expP (zG (zbk n) (za0 k))) ⟨1,rfl⟩) k):=by
 have h1:=zMx (zLE hn hk)
 obtain ⟨h2,h3,h4⟩:=zIT h1
 unfold In02 at h1
 rw [h2]
 refine zGE ?_ (by omega)
 simp only [h3,h4]
 omega
theorem zKY (n:I64):(zlh n).opt=some (zlt n):=by
 simp only [zlh,Tr.opt,zlt,ztq,Tr.get,znp,za1]
 cases h0:zJ n
 ·simp only [Bool.not_false,ctr]
 by_cases h1:n.val>85899345920
 ·simp only [Bool.not_true,cfl,h1,decide_true,ctr]
 by_cases h2:n.val < -98784247808
 ·simp only [Bool.not_true,cfl,h1,h2,decide_true,decide_false,ctr]
 have e1:(Rng.w .i64 (2*n.val)).val=2*n.val:=wi (by omega) (by omega)
 have e2:(Rng.w .i64 (2*n.val+2977044472)).val=2*n.val+2977044472:=wi (by omega) (by omega)
 simp only [Bool.not_true,cfl,h1,h2,decide_false,e1,e2]
 generalize hN:2*n.val+2977044472=N
 have t1:=Int.tdiv_eq_ediv (a:=N) (b:=5954088944)
 have t2:=Int.tmod_eq_emod (a:=N) (b:=5954088944)
 generalize hq:N.tdiv 5954088944=q at *
 generalize hm:N.tmod 5954088944=r at *
 have hqr:N=5954088944*q+r:=by rw [<- hq,<- hm];exact (Int.mul_tdiv_add_tmod N 5954088944).symm
 have hr: -5954088944<r/\r<5954088944/\(0<=N->0<=r)/\(N<0->r<=0):=by
  rw [<- hm]
  refine ⟨?_,?_,?_,?_⟩
  ·have:=Int.lt_tmod_of_pos N (show (0:Int)<5954088944 by decide);omega
  ·have:=Int.tmod_lt_of_pos N (show (0:Int)<5954088944 by decide);omega
  ·exact fun h=>Int.tmod_nonneg _ h
  ·intro h
   have:=Int.neg_tmod (-N) 5954088944
   have h3:=Int.tmod_nonneg (a:= -N) 5954088944 (by omega)
   rw [Int.neg_neg] at this
   omega
 have hqb: -40<=q/\q<=40:=by omega
 have v1:(Rng.w .i64 q).val=q:=wi (by omega) (by omega)
 have v2:(Rng.w .i64 (q*2)).val=q*2:=wi (by omega) (by omega)
 have v3:(Rng.w .i64 (q*2*2977044472)).val=q*5954088944:=by rw [wi (by omega) (by omega)];omega
 have v4:(Rng.w .i64 r).val=r:=wi (by omega) (by omega)
 have v5:(Rng.w .i64 (q-1)).val=q-1:=wi (by omega) (by omega)
 have hat:zbo n=zbk n:=by rw [at_eq];exact (zoB (n:=n) (by omega)).symm
 simp only [v1,v2,v3,v4,hat,sub_eq,add_eq,zjm,zjQ,zbP,zzF,zyx,zvy]
 by_cases hlt:r<0
 ·have d1:decide (q*5954088944>N)=true:=by simp;omega
  have d2:decide (r<0)=true:=by simpa using hlt
  have ex:=zEH (n:=n) (k:= .w .i64 (q-1)) (by omega) (by rw [v5];omega)
  simp only [d1,d2,ctr]
  simp only [expP,expS,zvy] at ex
  have hG:zj0 _ _=true:=show (zej _ _).opt.isSome=true by rw [ex];rfl
  have hF:zj8 _ _=_:=Tr.zai ex
  rw [hG,hF]
  rfl
 ·have d1:decide (q*5954088944>N)=false:=by simp;omega
  have d2:decide (r<0)=false:=by simpa using hlt
  have ex:=zEH (n:=n) (k:= .w .i64 q) (by omega) (by rw [v1];omega)
  simp only [d1,d2,cfl]
  simp only [expP,expS,zvy] at ex
  have hG:zj0 _ _=true:=show (zej _ _).opt.isSome=true by rw [ex];rfl
  have hF:zj8 _ _=_:=Tr.zai ex
  rw [hG,hF]
  rfl
theorem zCt (n:I64):(zlh n).opt=some (zlw n):=zh4 (zKY n)
theorem zJ5 (n:I64):zlw n=zlt n:=Tr.zai (zKY n)
end Go.Proofs.YtaoakfodkoifoaaGreat.Ev
namespace Go.Proofs.YtaoakfodkoifoaaGreat.Ev
open Go Go.RowKit
set_option maxRecDepth 100000
section
variable [Amb]
noncomputable def zqI:Ent Tryz.prog:= .two1 zMX B271 (fun _=>true) zke 0 [1,2,3] 1 [0,2,3] (by unfold zuh;kernel_rfl) (by kernel_rfl) (by kernel_rfl) (by kernel_rfl) (fun a0=>by kernel_rfl) (fun a0 _=>(zxv a0).trans (zrn a0)) (fun a0 _=>(zxt a0).trans (zrn a0))
noncomputable def zAh:Ent Tryz.prog:= .of1 zOS B268 (fun _=>true) zlw fun a0 _=>(zBg a0).trans (zCt a0)
noncomputable def B306:Bod Tryz.prog:=⟨306,Tryz.f306,Tryz.f306.body.getD .skip,Tryz.func306,by kernel_rfl,by kernel_rfl,zar.no _ _⟩
noncomputable def zOA:Tb Tryz.prog:= {T:= [Y2,Y32],mix:=mix,Es:= [zbi,zck,zin,zey,zf6,zmU,zwu,zsf],Bs:= [],d:=1}
noncomputable def zjK (a0:I64):Tr (Iv):=
 .br (decide (a0.val<=35184372088832)) (.leaf (zkL (zR (zbo a0) (zev (zR (zcX (zbo a0)) (zw ⟨1,rfl⟩)))))) (.leaf (zR (zR (zex ⟨1,rfl⟩) (zjn a0)) ⟨⟨0,rfl⟩,⟨16,rfl⟩⟩))
theorem zvt (a0:I64):zOA.run B306 [enc a0] (Iv)=(zjK a0).opt:=by kernel_rfl
noncomputable def zf5:I64->Iv:=fun a0=>(zjK a0).get
theorem zuP (a0:I64):(zjK a0).opt=some (zf5 a0):=Tr.zX (by kernel_rfl)
noncomputable def zwz:Ent Tryz.prog:= .of1 zOA B306 (fun _=>true) zf5 fun a0 _=>(zvt a0).trans (zuP a0)
noncomputable def ztz:Tb Tryz.prog:= {T:= [Y2,Y32,Y40],mix:=mix,Es:= [zhM,zwz],Bs:= [],d:=1}
noncomputable def zeK (a0:I64) (d0:zz4 306):Tr (Iv):=
 .br (decide (a0.val<0)) (.leaf (zdB (zf5 (Rng.w .i64 (0-a0.val))))) (.leaf (zf5 a0))
theorem zqW (a0:I64) (d0:zz4 306):zlr ztz B326 [enc a0,.ptr 0 0] [(0,Cap.ec d0)] 1 (Iv)=(zeK a0 d0).opt:=by kernel_rfl
noncomputable def zb3:I64->zz4 306->Iv:=fun a0 d0=>(zeK a0 d0).get
theorem zqL (a0:I64) (d0:zz4 306):(zeK a0 d0).opt=some (zb3 a0 d0):=Tr.zX (by kernel_rfl)
noncomputable def zre:Ent Tryz.prog:= .cap1 ztz B326 (fun _ _=>true) zb3 fun a0 d0 _=>(zqW a0 d0).trans (zqL a0 d0)
noncomputable def B269:Bod Tryz.prog:=⟨269,Tryz.f269,Tryz.f269.body.getD .skip,Tryz.func269,by kernel_rfl,by kernel_rfl,zar.no _ _⟩
noncomputable def zMY:Tb Tryz.prog:= {T:= [Y2,Y32],mix:=mix,Es:= [za6,zah,zbB,zbl,zre],Bs:= [B178,B305],d:=8}
noncomputable def zh3 (a0:Iv):Tr (Iv):=
 .br (zab a0) (.leaf zD) (let c3:=zb3 a0.lo ⟨⟩;let c4:=zb3 a0.hi ⟨⟩;.br (!(zaU c3 c4)) (.leaf zD) (.leaf (zaN c3.lo c4.hi true)))
theorem zxw (a0:Iv):zxP zMY B269 [enc a0] [0,1,2,3] (Iv)=(zh3 a0).opt:=by kernel_rfl
theorem zxu (a0:Iv):zxP zMY B269 [enc a0] [1,0,2,3] (Iv)=(zh3 a0).opt:=by kernel_rfl
noncomputable def zmd:Iv->Iv:=fun a0=>(zh3 a0).get
noncomputable def zfK (a0:I64):Tr (Iv):=
 .br (decide (a0.val<0)) (.bad) (.br (decide (a0.val<=35184372088832)) (.leaf (zkF (zq (zbk a0) (zaD (zq (zay (zbk a0)) zaw))))) (.leaf (zq (zq (za0 ⟨1,rfl⟩) (zls a0)) ⟨⟨0,rfl⟩,⟨16,rfl⟩⟩)))
noncomputable def zn9:I64->Iv:=fun a0=>(zfK a0).get
noncomputable def zkD:I64->Bool:=fun a0=>(zfK a0).opt.isSome
noncomputable def zhd (a0:I64):Tr (Iv):=
 .br (decide (a0.val<0)) (let c1:=(Rng.w .i64 (0-a0.val));.br (zkD c1) (.leaf (zaK (zn9 c1))) (.bad)) (.br (decide (a0.val<=35184372088832)) (.leaf (zkF (zq (zbk a0) (zaD (zq (zay (zbk a0)) zaw))))) (.leaf (zq (zq (za0 ⟨1,rfl⟩) (zls a0)) ⟨⟨0,rfl⟩,⟨16,rfl⟩⟩)))
noncomputable def zj6:I64->Iv:=fun a0=>(zhd a0).get
noncomputable def zfU:I64->Bool:=fun a0=>(zhd a0).opt.isSome
noncomputable def zog (a0:Iv):Tr (Iv):=
 .br (!(za a0)) (.leaf zh) (.br (zfU a0.lo) (.br (zfU a0.hi) (.leaf (zb6 (zj6 a0.lo) (zj6 a0.hi))) (.bad)) (.bad))
noncomputable def zr5:Iv->Iv:=fun a0=>(zog a0).get
noncomputable def zqu (a0:I64):Tr (Iv):=
 .leaf (zdW (zG (zlt a0) (zlt (Rng.w .i64 (0-a0.val)))))
noncomputable def znK:I64->Iv:=fun a0=>(zqu a0).get
noncomputable def zto (a0:Iv):Tr (Iv):=
 .br (!(za a0)) (.leaf zh) (.leaf (zb6 (znK a0.lo) (znK a0.hi)))
noncomputable def zpP:Iv->Iv:=fun a0=>(zto a0).get
noncomputable def B267:Bod Tryz.prog:=⟨267,Tryz.f267,Tryz.f267.body.getD .skip,Tryz.func267,by kernel_rfl,by kernel_rfl,zar.no _ _⟩
noncomputable def zOT:Tb Tryz.prog:= {T:= [Y2,Y32],mix:=mix,Es:= [zcZ,zpX,zAh],Bs:= [],d:=1}
noncomputable def zkZ (a0:I64):Tr (Iv):=
 .leaf (zgf (zaz (zlw a0) (zlw (Rng.w .i64 (0-a0.val)))))
theorem zxk (a0:I64):zOT.run B267 [enc a0] (Iv)=(zkZ a0).opt:=by kernel_rfl
noncomputable def ziN:I64->Iv:=fun a0=>(zkZ a0).get
theorem zwT (a0:I64):(zkZ a0).opt=some (ziN a0):=Tr.zX (by kernel_rfl)
noncomputable def zxK:Ent Tryz.prog:= .of1 zOT B267 (fun _=>true) ziN fun a0 _=>(zxk a0).trans (zwT a0)
noncomputable def B235:Bod Tryz.prog:=⟨235,Tryz.f235,Tryz.f235.body.getD .skip,Tryz.func235,by kernel_rfl,by kernel_rfl,zar.no _ _⟩
noncomputable def zPa:Tb Tryz.prog:= {T:= [Y2,Y32],mix:=mix,Es:= [za6,zah,zbB,zbl,zxK],Bs:= [B178],d:=8}
noncomputable def zm8 (a0:Iv):Tr (Iv):=
 .br (zab a0) (.leaf zD) (let c3:=ziN a0.lo;let c4:=ziN a0.hi;.br (!(zaU c3 c4)) (.leaf zD) (.leaf (zaN c3.lo c4.hi true)))
theorem zA8 (a0:Iv):zPa.run B235 [enc a0] (Iv)=(zm8 a0).opt:=by kernel_rfl
noncomputable def zlv:Iv->Iv:=fun a0=>(zm8 a0).get
theorem zAx (a0:Iv):(zm8 a0).opt=some (zlv a0):=Tr.zX (by kernel_rfl)
noncomputable def zB0:Ent Tryz.prog:= .of1 zPa B235 (fun _=>true) zlv fun a0 _=>(zA8 a0).trans (zAx a0)
noncomputable def zru (a0:Ell):Tr (Iv):=
 .br (!(zae a0)) (.leaf zh) (.leaf (zQ a0.num (Rng.w .i64 ((Rng.w .i64 (2*a0.den.val)).val-a0.num.val))))
noncomputable def zoP:Ell->Iv:=fun a0=>(zru a0).get
noncomputable def zrr (a0:Ell) (a1:I64):Tr (Iv):=
 let c1:=zbk a1;let c2:=zoP a0;let c3:=zay c2;let c56:=zk (zk (zk (zf ⟨2,rfl⟩) c3) c3) c2;.leaf (zk (zo (zdI a0) (zq (zf ⟨1,rfl⟩) c2)) (zq (zq (zG (zq (zG (zk (zq (zq (zf ⟨1,rfl⟩) (zo c3 (zf ⟨4,rfl⟩))) (zo (zk c3 c3) (zf ⟨64,rfl⟩))) c1) (zk (zk (zk (zQ ⟨3,rfl⟩ ⟨2,rfl⟩) c2) (zG (zf ⟨1,rfl⟩) (zo c3 (zf ⟨8,rfl⟩)))) (zan (zk (zf ⟨2,rfl⟩) c1)))) (zk (zk (zk (zQ ⟨15,rfl⟩ ⟨16,rfl⟩) c3) (zG (zf ⟨1,rfl⟩) (zo c3 (zf ⟨4,rfl⟩)))) (zan (zk (zf ⟨4,rfl⟩) c1)))) (zk (zk (zk (zQ ⟨35,rfl⟩ ⟨48,rfl⟩) c3) c2) (zan (zk (zf ⟨6,rfl⟩) c1)))) (zk (zk (zk (zQ ⟨315,rfl⟩ ⟨512,rfl⟩) c3) c3) (zan (zk (zf ⟨8,rfl⟩) c1)))) (zU (Rng.w .i64 (0-c56.hi.val)) c56.hi)))
noncomputable def zma:Ell->I64->Iv:=fun a0 a1=>(zrr a0 a1).get
noncomputable def zuW (a0:Ell) (a1:Iv):Tr (Iv):=
 .br (!(zae a0)) (.leaf zh) (.br (!(zal a1 ⟨⟨(-8589934592),rfl⟩,⟨8589934592,rfl⟩⟩)) (.leaf zh) (.leaf (zb6 (zma a0 a1.lo) (zma a0 a1.hi))))
noncomputable def zoR:Ell->Iv->Iv:=fun a0 a1=>(zuW a0 a1).get
noncomputable def B328:Bod Tryz.prog:=⟨328,Tryz.f328,Tryz.f328.body.getD .skip,Tryz.func328,by kernel_rfl,by kernel_rfl,zar.no _ _⟩
noncomputable def B310:Bod Tryz.prog:=⟨310,Tryz.f310,Tryz.f310.body.getD .skip,Tryz.func310,by kernel_rfl,by kernel_rfl,zar.no _ _⟩
noncomputable def zOw:Tb Tryz.prog:= {T:= [Y2,Y25,Y32],mix:=mix,Es:= [za5,zcU,zah],Bs:= [B188,B328],d:=8}
noncomputable def zlW (a0:Ell):Tr (Iv):=
 .br (!(zaI a0)) (.leaf zD) (.leaf (zaa a0.num (Rng.w .i64 ((Rng.w .i64 (2*a0.den.val)).val-a0.num.val))))
theorem zzq (a0:Ell):zOw.run B310 [enc a0] (Iv)=(zlW a0).opt:=by kernel_rfl
noncomputable def zka:Ell->Iv:=fun a0=>(zlW a0).get
theorem zyK (a0:Ell):(zlW a0).opt=some (zka a0):=Tr.zX (by kernel_rfl)
noncomputable def zAc:Ent Tryz.prog:= .of1 zOw B310 (fun _=>true) zka fun a0 _=>(zzq a0).trans (zyK a0)
noncomputable def B139:Bod Tryz.prog:=⟨139,Tryz.f139,Tryz.f139.body.getD .skip,Tryz.func139,by kernel_rfl,by kernel_rfl,zar.no _ _⟩
noncomputable def zPQ:Tb Tryz.prog:= {T:= [Y2,Y32],mix:=mix,Es:= [za6,zah,zbB],Bs:= [],d:=1}
noncomputable def zgv (a0:Iv):Tr (Iv):=
 .br (zab a0) (.leaf zD) (.leaf (zaN (Rng.w .i64 (0-a0.hi.val)) a0.hi true))
theorem ztQ (a0:Iv):zPQ.run B139 [enc a0] (Iv)=(zgv a0).opt:=by kernel_rfl
noncomputable def zcS:Iv->Iv:=fun a0=>(zgv a0).get
theorem ztF (a0:Iv):(zgv a0).opt=some (zcS a0):=Tr.zX (by kernel_rfl)
noncomputable def zo4:Ent Tryz.prog:= .of1 zPQ B139 (fun _=>true) zcS fun a0 _=>(ztQ a0).trans (ztF a0)
noncomputable def B274:Bod Tryz.prog:=⟨274,Tryz.f274,Tryz.f274.body.getD .skip,Tryz.func274,by kernel_rfl,by kernel_rfl,zar.no _ _⟩
noncomputable def zOQ:Tb Tryz.prog:= {T:= [Y2,Y25,Y32],mix:=mix,Es:= [zbi,zck,zcj,zgV,zoT,zbW,zcZ,zcU,zey,zwq,zo4,zme,zpT,zf6,zAc],Bs:= [],d:=1}
noncomputable def zm7 (a0:Ell) (a1:I64):Tr (Iv):=
 let c1:=zka a0;let c2:=zbo a1;let c3:=zcX c1;.leaf (zF (zad (zfn a0) (zR (zw ⟨1,rfl⟩) c1)) (zR (zR (zaz (zR (zaz (zF (zR (zR (zw ⟨1,rfl⟩) (zfx c3 ⟨4,rfl⟩)) (zfx (zF c3 c3) ⟨64,rfl⟩)) c2) (zF (zF (zF (zaa ⟨3,rfl⟩ ⟨2,rfl⟩) c1) (zb8 (zfx c3 ⟨8,rfl⟩))) (zcD (zc7 ⟨2,rfl⟩ c2)))) (zF (zF (zF (zaa ⟨15,rfl⟩ ⟨16,rfl⟩) c3) (zb8 (zfx c3 ⟨4,rfl⟩))) (zcD (zc7 ⟨4,rfl⟩ c2)))) (zF (zF (zF (zaa ⟨35,rfl⟩ ⟨48,rfl⟩) c3) c1) (zcD (zc7 ⟨6,rfl⟩ c2)))) (zF (zF (zF (zaa ⟨315,rfl⟩ ⟨512,rfl⟩) c3) c3) (zcD (zc7 ⟨8,rfl⟩ c2)))) (zcS (zF (zF (zc7 ⟨2,rfl⟩ c3) c3) c1))))
theorem zA4 (a0:Ell) (a1:I64):zOQ.run B274 [enc a0,enc a1] (Iv)=(zm7 a0 a1).opt:=by kernel_rfl
noncomputable def zlu:Ell->I64->Iv:=fun a0 a1=>(zm7 a0 a1).get
theorem zAv (a0:Ell) (a1:I64):(zm7 a0 a1).opt=some (zlu a0 a1):=Tr.zX (by kernel_rfl)
noncomputable def zBZ:Ent Tryz.prog:= .of2 zOQ B274 (fun _ _=>true) zlu fun a0 a1 _=>(zA4 a0 a1).trans (zAv a0 a1)
noncomputable def B273:Bod Tryz.prog:=⟨273,Tryz.f273,Tryz.f273.body.getD .skip,Tryz.func273,by kernel_rfl,by kernel_rfl,zar.no _ _⟩
noncomputable def zIL:Tb Tryz.prog:= {T:= [Y2,Y25,Y32],mix:=mix,Es:= [zBZ],Bs:= [],d:=1}
noncomputable def zjL (a0:I64) (d0:Ell):Tr (Iv):=
 .leaf (zlu d0 a0)
theorem zvu (a0:I64) (d0:Ell):zlr zIL B273 [enc a0,.ptr 0 0] [(0,Cap.ec d0)] 1 (Iv)=(zjL a0 d0).opt:=by kernel_rfl
noncomputable def zhI:I64->Ell->Iv:=fun a0 d0=>(zjL a0 d0).get
theorem zuQ (a0:I64) (d0:Ell):(zjL a0 d0).opt=some (zhI a0 d0):=Tr.zX (by kernel_rfl)
noncomputable def zwA:Ent Tryz.prog:= .cap1 zIL B273 (fun _ _=>true) zhI fun a0 d0 _=>(zvu a0 d0).trans (zuQ a0 d0)
noncomputable def B238:Bod Tryz.prog:=⟨238,Tryz.f238,Tryz.f238.body.getD .skip,Tryz.func238,by kernel_rfl,by kernel_rfl,zar.no _ _⟩
noncomputable def zO7:Tb Tryz.prog:= {T:= [Y2,Y25,Y32],mix:=mix,Es:= [za5,za3,za6,zah,zbB,zbl,zwA],Bs:= [B178],d:=8}
noncomputable def zot (a0:Ell) (a1:Iv):Tr (Iv):=
 .br (!(zaI a0)) (.leaf zD) (.br (!(zas a1.lo ⟨(-8589934592),rfl⟩ ⟨8589934592,rfl⟩)) (.leaf zD) (.br (!(zas a1.hi ⟨(-8589934592),rfl⟩ ⟨8589934592,rfl⟩)) (.leaf zD) (.br (zab a1) (.leaf zD) (let c9:=zhI a1.lo a0;let c10:=zhI a1.hi a0;.br (!(zaU c9 c10)) (.leaf zD) (.leaf (zaN c9.lo c10.hi true))))))
theorem zCS (a0:Ell) (a1:Iv):zO7.run B238 [enc a0,enc a1] (Iv)=(zot a0 a1).opt:=by kernel_rfl
noncomputable def zkM:Ell->Iv->Iv:=fun a0 a1=>(zot a0 a1).get
theorem zCo (a0:Ell) (a1:Iv):(zot a0 a1).opt=some (zkM a0 a1):=Tr.zX (by kernel_rfl)
noncomputable def zDP:Ent Tryz.prog:= .of2 zO7 B238 (fun _ _=>true) zkM fun a0 a1 _=>(zCS a0 a1).trans (zCo a0 a1)
end
end Go.Proofs.YtaoakfodkoifoaaGreat.Ev
namespace Go.Proofs.YtaoakfodkoifoaaGreat.Ev
open Go
theorem zK7 (n:I64) (h:0<=n.val/\n.val<1152921504606846976):(zfK n).opt=some (zf5 n):=by
 have hn:decide (n.val<0)=false:=by simp;omega
 simp only [zfK,Tr.opt,zf5,zjK,Tr.get,hn,cond_false,zHu,zEw,zzF,add_eq,zp2,zpn,zbP,zvy,at_eq]
 rw [zoB (n:=n) (by omega)]
 cases decide (n.val<=35184372088832)<;>rfl
theorem zIB (n:I64) (h: -1152921504606846976<n.val/\n.val<1152921504606846976):(zhd n).opt=some (zb3 n ⟨⟩):=by
 by_cases hn:n.val<0
 ·have e1:(Rng.w .i64 (0-n.val)).val=0-n.val:=wi (by omega) (by omega)
  have a1:=zK7 (.w .i64 (0-n.val)) (by omega)
  have g1:zkD (.w .i64 (0-n.val))=true:=by unfold zkD;rw [a1];rfl
  have f1:zn9 (.w .i64 (0-n.val))=_:=Tr.zai a1
  have hd:decide (n.val<0)=true:=by simpa using hn
  simp only [zhd,Tr.opt,zb3,zeK,Tr.get,hd,cond_true,g1,f1,neg_eq]
 ·have a1:=zK7 n (by omega)
  have hd:decide (n.val<0)=false:=by simpa using hn
  simp only [zfK,Tr.opt,hd,cond_false] at a1
  simp only [zhd,Tr.opt,zb3,zeK,Tr.get,hd,cond_false]
  exact a1
theorem zE6 (x:Iv):∃y,(zog x).opt=some y/\(zh3 x).opt=some y:=by
 simp only [zog,zh3,Tr.opt,ziH,zjS,za1,zc2]
 cases h:za x
 ·exact ⟨_,rfl,rfl⟩
 have hb:=(zaB x).1 h
 have a1:=zIB x.lo (by omega)
 have a2:=zIB x.hi (by omega)
 have g1:zfU x.lo=true:=by unfold zfU;rw [a1];rfl
 have g2:zfU x.hi=true:=by unfold zfU;rw [a2];rfl
 have f1:zj6 x.lo=_:=Tr.zai a1
 have f2:zj6 x.hi=_:=Tr.zai a2
 simp only [Bool.not_true,cond_false,cond_true,g1,g2,f1,f2,zb6,ziz,Tr.get]
 cases za (zb3 x.lo ⟨⟩)<;>cases za (zb3 x.hi ⟨⟩)<;>exact ⟨_,rfl,rfl⟩
theorem zIC (x:Iv):zmd x=zr5 x:=by
 obtain ⟨y,h1,h2⟩:=zE6 x
 exact (Tr.zai h2).trans (Tr.zai h1).symm
theorem zro (x:Iv):(zh3 x).opt=some (zmd x):=by obtain ⟨y,_,h1⟩:=zE6 x;exact zh4 h1
theorem zI5 (x:Iv):zlv x=zpP x:=by
 simp only [zlv,zm8,zpP,zto,Tr.get,ziH,zjS,za1,zc2,ctr,zDs,ziN,zkZ,znK,zqu,zJ5,zzN,sub_eq]
def Norm (a:Iv):Prop:=za a=true\/a=zh
theorem zsN:Norm zh:= .inr rfl
theorem zvB (lo hi:I64):Norm (zU lo hi):=by
 by_cases h: -1152921504606846976<lo.val/\lo.val<=hi.val/\hi.val<1152921504606846976
 ·exact .inl (by rw [zbq h];exact (zaB _).2 h)
 ·exact .inr (zi9 h)
theorem zvC {c:Bool} {a b:Iv} (ha:Norm a) (hb:Norm b):Norm (bif c then a else b):=by cases c<;>assumption
theorem zEe (a b:Iv):Norm (zk a b):=by
 simp only [zk,zkr,Tr.get]
 repeat' (first|with_reducible exact zvB _ _|with_reducible exact zsN|with_reducible refine zvC ?_ ?_)
theorem zJx (a b:Iv):Norm (zq a b):=by
 simp only [zq,zd3,Tr.get]
 repeat' (first|with_reducible exact zvB _ _|with_reducible exact zsN|with_reducible refine zvC ?_ ?_)
theorem zG9 (a b:Iv):Norm (zN a b):=by
 simp only [zN,zhn,Tr.get]
 repeat' (first|with_reducible exact zvB _ _|with_reducible exact zsN|with_reducible refine zvC ?_ ?_)
theorem Norm.sym {a:Iv} (h:Norm a):zU (.w .i64 (0-a.hi.val)) a.hi=zcS a:=by
 simp only [zcS,zgv,Tr.get,ziH,za1,zc2,ctr]
 rcases h with h|h
 ·rw [h];rfl
 ·rw [h,zbD]
  simp only [Bool.not_false,ctr]
  exact zi9 (by decide +kernel)
theorem zI0 (e:Ell):zka e=zoP e:=by
 simp only [zka,zlW,zoP,zru,Tr.get,zn4,znB,za1]
theorem zKH (x:Iv) (k:I64):zfx x k=zo x (zf k):=by
 simp only [zfx,zoi,Tr.get,zjQ,zbP]
theorem zGq (k:I64) (x:Iv):zc7 k x=zk (zf k) x:=by
 simp only [zc7,zle,Tr.get,zjm,zbP]
theorem zE8 {e:Ell} {n:I64} (h: -1152921504606846976<n.val/\n.val<1152921504606846976):zlu e n=zma e n:=by
 simp only [zlu,zm7,zma,zrr,Tr.get,zoB h,at_eq,zI0,zKH,zGq,zmg,zjm,zjQ,add_eq,sub_eq,zpn,znB,zy5,zbP,zuq,(zEe _ _).sym]
theorem zMR (e:Ell) (x:Iv):zkM e x=zoR e x:=by
 have h2:za ⟨⟨-8589934592,rfl⟩,⟨8589934592,rfl⟩⟩=true:=(zaB _).2 (by decide)
 have hi:zal x ⟨⟨-8589934592,rfl⟩,⟨8589934592,rfl⟩⟩=(za x&&decide (-8589934592<=x.lo.val)&&decide (x.hi.val<=8589934592)):=by
  simp only [zal,zde,Tr.get,h2,Bool.not_true,cond_false]
  cases za x<;>cases decide (-8589934592<=x.lo.val)<;>simp [ctr,cfl]
 simp only [zkM,zot,zoR,zuW,zhI,zjL,Tr.get,zn4,zbN,ziH,zjS,za1,zc2,ctr,zDs,hi]
 cases zae e
 ·simp [ctr,cfl]
 cases ho:za x
 ·simp [ctr,cfl]
 have hb:=(zaB x).1 ho
 by_cases hl: -8589934592<=x.lo.val/\x.hi.val<=8589934592
 ·have w1:decide (-8589934592<=x.lo.val/\x.lo.val<=8589934592)=true:=by simp;omega
  have w2:decide (-8589934592<=x.hi.val/\x.hi.val<=8589934592)=true:=by simp;omega
  have d1:decide (-8589934592<=x.lo.val)=true:=by simpa using hl.1
  have d2:decide (x.hi.val<=8589934592)=true:=by simpa using hl.2
  simp only [w1,w2,d1,d2,Bool.and_self,Bool.not_true,ctr,cfl,zE8 (e:=e) (n:=x.lo) (by omega),zE8 (e:=e) (n:=x.hi) (by omega)]
 ·have w3:(decide (-8589934592<=x.lo.val)&&decide (x.hi.val<=8589934592))=false:=by
   rw [<- Bool.decide_and];simpa using hl
  have w4:(decide (-8589934592<=x.lo.val/\x.lo.val<=8589934592)&&decide (-8589934592<=x.hi.val/\x.hi.val<=8589934592))=false:=by
   rw [<- Bool.decide_and];simp;omega
  simp only [Bool.true_and,w3,Bool.not_false,ctr]
  cases w5:decide (-8589934592<=x.lo.val/\x.lo.val<=8589934592)
  ·simp only [Bool.not_false,ctr]
  ·rw [w5,Bool.true_and] at w4
   simp only [w4,Bool.not_false,Bool.not_true,ctr,cfl]
end Go.Proofs.YtaoakfodkoifoaaGreat.Ev
namespace Go.Proofs.YtaoakfodkoifoaaGreat.Ev
open Go Go.RowKit
set_option maxRecDepth 100000
section
variable [Amb]
noncomputable def zxN:Ent Tryz.prog:= .two1 zMY B269 (fun _=>true) zmd 0 [1,2,3] 1 [0,2,3] (by unfold zuh;kernel_rfl) (by kernel_rfl) (by kernel_rfl) (by kernel_rfl) (fun a0=>by kernel_rfl) (fun a0 _=>(zxw a0).trans (zro a0)) (fun a0 _=>(zxu a0).trans (zro a0))
noncomputable def B231:Bod Tryz.prog:=⟨231,Tryz.f231,Tryz.f231.body.getD .skip,Tryz.func231,by kernel_rfl,by kernel_rfl,zar.no _ _⟩
noncomputable def zPe:Tb Tryz.prog:= {T:= [],mix:=mix,Es:= [za3],Bs:= [],d:=1}
noncomputable def zhV (a0:I64):Tr (Bool):=
 .leaf (zas a0 ⟨1,rfl⟩ ⟨6,rfl⟩)
theorem zsy (a0:I64):zPe.run B231 [enc a0] (Bool)=(zhV a0).opt:=by kernel_rfl
noncomputable def zf0:I64->Bool:=fun a0=>(zhV a0).get
theorem zsj (a0:I64):(zhV a0).opt=some (zf0 a0):=Tr.zX (by kernel_rfl)
noncomputable def ztf:Ent Tryz.prog:= .of1 zPe B231 (fun _=>true) zf0 fun a0 _=>(zsy a0).trans (zsj a0)
noncomputable def B236:Bod Tryz.prog:=⟨236,Tryz.f236,Tryz.f236.body.getD .skip,Tryz.func236,by kernel_rfl,by kernel_rfl,zar.no _ _⟩
noncomputable def zO9:Tb Tryz.prog:= {T:= [Y2,Y25,Y32],mix:=mix,Es:= [zmT,zbW,zcZ,zin,zf6,zpW,zxN,zDM,zqI],Bs:= [],d:=1}
noncomputable def ziT (a0:Ell) (a1:I64):Tr (Iv):=
 let c2:=zev (zfA a0);.leaf (zaz (zmd (zcW (zbo a1))) (zF c2 (zke (zF c2 (zge a1)))))
theorem ztR (a0:Ell) (a1:I64):zO9.run B236 [enc a0,enc a1] (Iv)=(ziT a0 a1).opt:=by kernel_rfl
noncomputable def ze6:Ell->I64->Iv:=fun a0 a1=>(ziT a0 a1).get
theorem ztG (a0:Ell) (a1:I64):(ziT a0 a1).opt=some (ze6 a0 a1):=Tr.zX (by kernel_rfl)
noncomputable def zt5:Ent Tryz.prog:= .of2 zO9 B236 (fun _ _=>true) ze6 fun a0 a1 _=>(ztR a0 a1).trans (ztG a0 a1)
noncomputable def B237:Bod Tryz.prog:=⟨237,Tryz.f237,Tryz.f237.body.getD .skip,Tryz.func237,by kernel_rfl,by kernel_rfl,zar.no _ _⟩
noncomputable def zO8:Tb Tryz.prog:= {T:= [Y2,Y25,Y32],mix:=mix,Es:= [zck,zcj,zgV,zmT,zbW,zin,zpT,zqI,zwp],Bs:= [],d:=1}
noncomputable def zoh (a0:Ell) (a1:Iv):Tr (Iv):=
 .br (a0.num.val==0) (.leaf (zc7 ⟨2,rfl⟩ a1)) (let c3:=zev (zfA a0);.leaf (zF (zb8 (zfA a0)) (zR (zad a1 (zhE a0 a1)) (zad (zke (zF c3 a1)) c3))))
theorem zCC (a0:Ell) (a1:Iv):zO8.run B237 [enc a0,enc a1] (Iv)=(zoh a0 a1).opt:=by kernel_rfl
noncomputable def zkJ:Ell->Iv->Iv:=fun a0 a1=>(zoh a0 a1).get
theorem zCa (a0:Ell) (a1:Iv):(zoh a0 a1).opt=some (zkJ a0 a1):=Tr.zX (by kernel_rfl)
noncomputable def zDL:Ent Tryz.prog:= .of2 zO8 B237 (fun _ _=>true) zkJ fun a0 a1 _=>(zCC a0 a1).trans (zCa a0 a1)
noncomputable def B180:Bod Tryz.prog:=⟨180,Tryz.f180,Tryz.f180.body.getD .skip,Tryz.func180,by kernel_rfl,by kernel_rfl,zar.no _ _⟩
noncomputable def zPG:Tb Tryz.prog:= {T:= [Y2,Y25,Y32],mix:=mix,Es:= [za5,za3,zbi,zti,zcj,zgV,zkj,zmT,zbW,zah,zem,ztE,zpZ,zf6,ztf,zxH,zpW,ztD,zB0,zt5,zDL,zDP],Bs:= [],d:=1}
noncomputable def zh0 (a0:I64) (a1:Ell) (a2:I64):Tr (Iv):=
 .br (!(zf0 a0)) (.leaf zD) (.br (!(zaI a1)) (.leaf zD) (.br (!(zas a2 (Rng.w .i64 (0-zgS.val)) zgS)) (.leaf zD) (let c10:=zge a2;let c11:=zhG a2;.br (a0.val==1) (.leaf (zeG (zF (zb8 (zdl a1)) c10) c11)) (.br (a0.val==2) (.leaf (zeG (zF (zb8 (zfA a1)) c10) c11)) (.br (a0.val==3) (.leaf (zdb (zlv (ze6 a1 a2)))) (.br (a0.val==4) (.leaf (zjo (zad (zkJ a1 c10) (zkJ a1 (zw ⟨1,rfl⟩))))) (.br (a0.val==5) (.leaf (zad (zF (za4 ⟨1,rfl⟩) (zkM a1 (zbo a2))) (zkM a1 (za4 ⟨1,rfl⟩)))) (.leaf (ze6 a1 a2)))))))))
theorem zsE (a0:I64) (a1:Ell) (a2:I64):zPG.run B180 [enc a0,enc a1,enc a2] (Iv)=(zh0 a0 a1 a2).opt:=by kernel_rfl
noncomputable def zf3:I64->Ell->I64->Iv:=fun a0 a1 a2=>(zh0 a0 a1 a2).get
theorem zso (a0:I64) (a1:Ell) (a2:I64):(zh0 a0 a1 a2).opt=some (zf3 a0 a1 a2):=Tr.zX (by kernel_rfl)
noncomputable def zth:Ent Tryz.prog:= .of3 zPG B180 (fun _ _ _=>true) zf3 fun a0 a1 a2 _=>(zsE a0 a1 a2).trans (zso a0 a1 a2)
noncomputable def B179:Bod Tryz.prog:=⟨179,Tryz.f179,Tryz.f179.body.getD .skip,Tryz.func179,by kernel_rfl,by kernel_rfl,zar.no _ _⟩
noncomputable def zIN:Tb Tryz.prog:= {T:= [Y2,Y25,Y32],mix:=mix,Es:= [zth],Bs:= [],d:=1}
noncomputable def zfE (a0:I64) (d0:I64) (d1:Ell):Tr (Iv):=
 .leaf (zf3 d0 d1 a0)
theorem zql (a0:I64) (d0:I64) (d1:Ell):zlr zIN B179 [enc a0,.ptr 0 0,.ptr 1 0] [(0,Cap.ec d0),(1,Cap.ec d1)] 2 (Iv)=(zfE a0 d0 d1).opt:=by kernel_rfl
noncomputable def zef:I64->I64->Ell->Iv:=fun a0 d0 d1=>(zfE a0 d0 d1).get
theorem zqh (a0:I64) (d0:I64) (d1:Ell):(zfE a0 d0 d1).opt=some (zef a0 d0 d1):=Tr.zX (by kernel_rfl)
noncomputable def zqq:Ent Tryz.prog:= .cap2 zIN B179 (fun _ _ _=>true) zef fun a0 d0 d1 _=>(zql a0 d0 d1).trans (zqh a0 d0 d1)
noncomputable def zqt (a0:I64):Tr (Bool):=
 .leaf (zaf a0 ⟨1,rfl⟩ ⟨6,rfl⟩)
noncomputable def ziM:I64->Bool:=fun a0=>(zqt a0).get
noncomputable def zrq:Tr (I64):=
 .br (zcl ⟨1,rfl⟩) (.leaf (zaS ⟨1,rfl⟩).hi) (.bad)
noncomputable def zl9:I64:=(zrq).get
noncomputable def zrp (a0:Ell) (a1:I64):Tr (Iv):=
 let c2:=zaD (zcg a0);.leaf (zG (zr5 (zwl (zbk a1))) (zk c2 (zoQ (zk c2 (zdV a1)))))
noncomputable def zl8:Ell->I64->Iv:=fun a0 a1=>(zrp a0 a1).get
noncomputable def zuU (a0:Ell) (a1:Iv):Tr (Iv):=
 .br (a0.num.val==0) (.leaf (zk (zf ⟨2,rfl⟩) a1)) (let c3:=zcg a0;let c4:=zaD c3;.leaf (zk (zG (zf ⟨1,rfl⟩) c3) (zq (zo a1 (zG (zf ⟨1,rfl⟩) (zk c3 (zay a1)))) (zo (zoQ (zk c4 a1)) c4))))
noncomputable def zoN:Ell->Iv->Iv:=fun a0 a1=>(zuU a0 a1).get
noncomputable def zph (a0:I64) (a1:Ell) (a2:I64):Tr (Iv):=
 let c1:=zdV a2;let c2:=zes a2;.br (a0.val==1) (.leaf (zcu (zk (zG (zf ⟨1,rfl⟩) (zbw a1)) c1) c2)) (.br (a0.val==2) (.leaf (zcu (zk (zG (zf ⟨1,rfl⟩) (zcg a1)) c1) c2)) (.br (a0.val==3) (.leaf (zak (zpP (zl8 a1 a2)))) (.br (a0.val==4) (.leaf (zc6 (zo (zoN a1 c1) (zoN a1 (zf ⟨1,rfl⟩))))) (.br (a0.val==5) (.leaf (zo (zk (zP ⟨1,rfl⟩) (zoR a1 (zbk a2))) (zoR a1 (zP ⟨1,rfl⟩)))) (.leaf (zl8 a1 a2))))))
noncomputable def zpO:I64->Ell->I64->Iv:=fun a0 a1 a2=>(zph a0 a1 a2).get
noncomputable def zks (a0:I64) (a1:Ell) (a2:I64):Tr (Iv):=
 .br (!(ziM a0)) (.leaf zh) (.br (!(zae a1)) (.leaf zh) (.br (!(zaf a2 (Rng.w .i64 (0-zl9.val)) zl9)) (.leaf zh) (.leaf (zpO a0 a1 a2))))
noncomputable def zc5:I64->Ell->I64->Iv:=fun a0 a1 a2=>(zks a0 a1 a2).get
noncomputable def zlB (a0:I64) (a1:Ell) (a2:Iv):Tr (Iv):=
 .br (!(za a2)) (.leaf zh) (.leaf (zb6 (zc5 a0 a1 a2.lo) (zc5 a0 a1 a2.hi)))
noncomputable def zb4:I64->Ell->Iv->Iv:=fun a0 a1 a2=>(zlB a0 a1 a2).get
noncomputable def B113:Bod Tryz.prog:=⟨113,Tryz.f113,Tryz.f113.body.getD .skip,Tryz.func113,by kernel_rfl,by kernel_rfl,zar.no _ _⟩
noncomputable def zQg:Tb Tryz.prog:= {T:= [Y2,Y32],mix:=mix,Es:= [za6,zah,zbB,zbl,zqq],Bs:= [B178],d:=8}
noncomputable def ziW (a0:I64) (a1:Ell) (a2:Iv):Tr (Iv):=
 .br (zab a2) (.leaf zD) (let c3:=zef a2.lo a0 a1;let c4:=zef a2.hi a0 a1;.br (!(zaU c3 c4)) (.leaf zD) (.leaf (zaN c3.lo c4.hi true)))
theorem ztZ (a0:I64) (a1:Ell) (a2:Iv):zQg.run B113 [enc a0,enc a1,enc a2] (Iv)=(ziW a0 a1 a2).opt:=by kernel_rfl
noncomputable def zbg:I64->Ell->Iv->Iv:=fun a0 a1 a2=>(ziW a0 a1 a2).get
theorem ztK (a0:I64) (a1:Ell) (a2:Iv):(ziW a0 a1 a2).opt=some (zbg a0 a1 a2):=Tr.zX (by kernel_rfl)
noncomputable def zgI:Ent Tryz.prog:= .of3 zQg B113 (fun _ _ _=>true) zbg fun a0 a1 a2 _=>(ztZ a0 a1 a2).trans (ztK a0 a1 a2)
end
end Go.Proofs.YtaoakfodkoifoaaGreat.Ev
namespace Go.Proofs.YtaoakfodkoifoaaGreat.Ev
open Go
theorem q_val:(zaS ⟨1,rfl⟩).hi.val=6746518853:=by kernel_rfl
theorem zGO:zgS=(zaS ⟨1,rfl⟩).hi:=by
 obtain ⟨g,e1⟩:=zsr (k:=⟨1,rfl⟩) (by decide) (by decide)
 simp only [zgS,zkT,Tr.get,ziP,e1]
theorem zN4:zl9=(zaS ⟨1,rfl⟩).hi:=by
 obtain ⟨g,e1⟩:=zsr (k:=⟨1,rfl⟩) (by decide) (by decide)
 simp only [zl9,zrq,Tr.get,g,ctr]
theorem zF6 (e:Ell) (s:Iv):zkJ e s=zoN e s:=by
 simp only [zkJ,zoh,zoN,zuU,Tr.get,zIZ,zBG,zp2,zmg,zGb,zjQ,zjm,add_eq,zBR]
theorem zJI (k:I64):zf0 k=ziM k:=by
 simp only [zf0,zhV,ziM,zqt,Tr.get,zbN,zdp]
theorem zNS {e:Ell} {n:I64} (h: -1152921504606846976<n.val/\n.val<1152921504606846976):ze6 e n=zl8 e n:=by
 simp only [ze6,ziT,zl8,zrp,Tr.get,zoB h,at_eq,zIC,zLn,zjm,sub_eq,zBR,zp2,zBG,zy6]
theorem zJM (k:I64) (e:Ell) (n:I64):zf3 k e n=zc5 k e n:=by
 have hq:=q_val
 have en:(Rng.w .i64 (0-(zaS ⟨1,rfl⟩).hi.val)).val= -6746518853:=by rw [hq];exact wi (by omega) (by omega)
 simp only [zf3,zh0,zc5,zks,Tr.get,zJI,zn4,zGO,zN4,zbN,zdp,za1]
 cases ziM k
 ·simp only [Bool.not_false,ctr]
 cases zae e
 ·simp only [Bool.not_false,Bool.not_true,ctr,cfl]
 by_cases hn:(Rng.w .i64 (0-(zaS ⟨1,rfl⟩).hi.val)).val<=n.val/\n.val<=(zaS ⟨1,rfl⟩).hi.val
 ·have hb: -1152921504606846976<n.val/\n.val<1152921504606846976:=by omega
  simp only [hn,and_self,decide_true,Bool.not_true,cfl,zpO,zph,Tr.get,zNS hb,zoB hb,at_eq,zy6,zEX,zMH,zmg,zzP,zBG,zjm,zjQ,zux,zI5,zE7,zF6,zbP,ziP,zMR]
 ·simp only [hn,decide_false,Bool.not_false,Bool.not_true,ctr,cfl]
theorem zMg (k:I64) (e:Ell) (x:Iv):zbg k e x=zb4 k e x:=by
 simp only [zbg,ziW,zb4,zlB,zef,zfE,Tr.get,zJM,ziH,zjS,za1,zc2,ctr,zDs]
end Go.Proofs.YtaoakfodkoifoaaGreat.Ev
