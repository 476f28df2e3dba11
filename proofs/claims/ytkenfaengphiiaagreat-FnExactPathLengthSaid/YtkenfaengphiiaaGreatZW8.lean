/- The law FnExactPathLength gives true, whatever comes in; each argument reads behind the call as it read before. No conditions. (One of the texts of its proof, put together by a program of this session.) -/
import Derived.Test.YtkenfaengphiiaaGreatZW5
import Derived.Test.YtkenfaengphiiaaGreatZPT
set_option linter.unusedSectionVars false
set_option linter.unusedSimpArgs false
set_option linter.unusedVariables false
namespace Go.Proofs.YtkenfaengphiiaaGreat.Ev
open Go Go.RowKit
set_option maxRecDepth 100000
section
variable [Amb]
noncomputable def B395:Bod Tryz.prog:=⟨395,Tryz.f395,Tryz.f395.body.getD .skip,Tryz.func395,by kernel_rfl,by kernel_rfl,zK.no _ _⟩
noncomputable def Tb395:Tb Tryz.prog:= {T:= [Y2,Y30],mix:=mix,Es:= [zb9,zaa,E_impl_HalfI,E_impl_LogI,zfY],Bs:= [],d:=1}
noncomputable def t_impl_AtanhI_1 (a0:I64):Tr (Iv):=
 .br (decide (a0.val>=4294967296)) (.leaf zq) (.leaf (F_impl_HalfI (F_impl_LogI (zY (zbc (Rng.w .i64 (4294967296+a0.val))) (zbc (Rng.w .i64 (4294967296-a0.val)))))))
theorem r_impl_AtanhI_1 (a0:I64):Tb395.run B395 [enc a0] (Iv)=(t_impl_AtanhI_1 a0).opt:=by kernel_rfl
noncomputable def zfV:I64->Iv:=fun a0=>(t_impl_AtanhI_1 a0).get
theorem u_impl_AtanhI_1 (a0:I64):(t_impl_AtanhI_1 a0).opt=some (zfV a0):=Tr.zz (by kernel_rfl)
noncomputable def E_impl_AtanhI_1:Ent Tryz.prog:= .of1 Tb395 B395 (fun _=>true) zfV fun a0 _=>(r_impl_AtanhI_1 a0).trans (u_impl_AtanhI_1 a0)
noncomputable def Y33:TyE Tryz.prog:=⟨33,1,.func,[.nilf],false,by kernel_rfl,by kernel_rfl,by kernel_rfl,by kernel_rfl,by kernel_rfl,by kernel_rfl⟩
noncomputable def B325:Bod Tryz.prog:=⟨325,Tryz.f325,Tryz.f325.body.getD .skip,Tryz.func325,by kernel_rfl,by kernel_rfl,zK.no _ _⟩
noncomputable def Tb325_AtanhI:Tb Tryz.prog:= {T:= [Y2,Y30,Y33],mix:=mix,Es:= [E_impl_NegI,E_impl_AtanhI_1],Bs:= [],d:=1}
noncomputable def zeA (a0:I64) (d0:FnTag 395):Tr (Iv):=
 .br (decide (a0.val<0)) (.leaf (zdv (zfV (Rng.w .i64 (0-a0.val))))) (.leaf (zfV a0))
theorem r_impl_odd_1_AtanhI (a0:I64) (d0:FnTag 395):capRun Tb325_AtanhI B325 [enc a0,.ptr 0 0] [(0,Cap.ec d0)] 1 (Iv)=(zeA a0 d0).opt:=by kernel_rfl
noncomputable def zbQ:I64->FnTag 395->Iv:=fun a0 d0=>(zeA a0 d0).get
theorem u_impl_odd_1_AtanhI (a0:I64) (d0:FnTag 395):(zeA a0 d0).opt=some (zbQ a0 d0):=Tr.zz (by kernel_rfl)
noncomputable def E_impl_odd_1_AtanhI:Ent Tryz.prog:= .cap1 Tb325_AtanhI B325 (fun _ _=>true) zbQ fun a0 d0 _=>(r_impl_odd_1_AtanhI a0 d0).trans (u_impl_odd_1_AtanhI a0 d0)
noncomputable def B256:Bod Tryz.prog:=⟨256,Tryz.f256,Tryz.f256.body.getD .skip,Tryz.func256,by kernel_rfl,by kernel_rfl,zK.no _ _⟩
noncomputable def B389:Bod Tryz.prog:=⟨389,Tryz.f389,Tryz.f389.body.getD .skip,Tryz.func389,by kernel_rfl,by kernel_rfl,zK.no _ _⟩
noncomputable def Tb389:Tb Tryz.prog:= {T:= [Y2,Y30],mix:=mix,Es:= [zaW,za9,zaa,zbm,E_impl_odd_1_AtanhI],Bs:= [B255,B256],d:=8}
noncomputable def t_impl_AtanhI (a0:Iv):Tr (Iv):=
 .br (zX a0) (.leaf zq) (let c3:=zbQ a0.lo ⟨⟩;let c4:=zbQ a0.hi ⟨⟩;.br (!(zaH c3 c4)) (.leaf zq) (.leaf (zaE c3.lo c4.hi true)))
theorem r0_impl_AtanhI (a0:Iv):twoRun Tb389 B389 [enc a0] [0,1,2,3] (Iv)=(t_impl_AtanhI a0).opt:=by kernel_rfl
theorem r1_impl_AtanhI (a0:Iv):twoRun Tb389 B389 [enc a0] [1,0,2,3] (Iv)=(t_impl_AtanhI a0).opt:=by kernel_rfl
noncomputable def F_impl_AtanhI:Iv->Iv:=fun a0=>(t_impl_AtanhI a0).get
noncomputable def B398:Bod Tryz.prog:=⟨398,Tryz.f398,Tryz.f398.body.getD .skip,Tryz.func398,by kernel_rfl,by kernel_rfl,zK.no _ _⟩
noncomputable def Tb398_p:Tb Tryz.prog:= {T:= [Y2,Y30],mix:=mix,Es:= [zS,zb8,E_spec_HalfI,E_spec_LogI,zfc],Bs:= [],d:=1}
noncomputable def zem (a0:I64):Tr (Iv):=
 .br (decide (a0.val<0)) (.bad) (.br (decide (a0.val>=4294967296)) (.leaf ze) (.leaf (zdO (F_spec_LogI (zn (zaT (Rng.w .i64 (4294967296+a0.val))) (zaT (Rng.w .i64 (4294967296-a0.val))))))))
theorem r_spec_l08Atanh_p (a0:I64):Tb398_p.run B398 [enc a0] (Iv)=(zem a0).opt:=by kernel_rfl
noncomputable def F_spec_l08Atanh_p:I64->Iv:=fun a0=>(zem a0).get
noncomputable def G_spec_l08Atanh_p:I64->Bool:=fun a0=>(zem a0).opt.isSome
noncomputable def E_spec_l08Atanh_p:Ent Tryz.prog:= .of1 Tb398_p B398 G_spec_l08Atanh_p F_spec_l08Atanh_p fun a0 h=>(r_spec_l08Atanh_p a0).trans (Tr.get_some h)
noncomputable def Tb398:Tb Tryz.prog:= {T:= [Y2,Y30],mix:=mix,Es:= [zS,zb8,E_spec_HalfI,E_spec_NegI,E_spec_LogI,zfc,E_spec_l08Atanh_p],Bs:= [],d:=1}
noncomputable def zfE (a0:I64):Tr (Iv):=
 .br (decide (a0.val<0)) (let c1:=(Rng.w .i64 (0-a0.val));.br (G_spec_l08Atanh_p c1) (.leaf (zaO (F_spec_l08Atanh_p c1))) (.bad)) (.br (decide (a0.val>=4294967296)) (.leaf ze) (.leaf (zdO (F_spec_LogI (zn (zaT (Rng.w .i64 (4294967296+a0.val))) (zaT (Rng.w .i64 (4294967296-a0.val))))))))
theorem r_spec_l08Atanh (a0:I64):Tb398.run B398 [enc a0] (Iv)=(zfE a0).opt:=by kernel_rfl
noncomputable def F_spec_l08Atanh:I64->Iv:=fun a0=>(zfE a0).get
noncomputable def zeD:I64->Bool:=fun a0=>(zfE a0).opt.isSome
noncomputable def E_spec_l08Atanh:Ent Tryz.prog:= .of1 Tb398 B398 zeD F_spec_l08Atanh fun a0 h=>(r_spec_l08Atanh a0).trans (Tr.get_some h)
noncomputable def B393:Bod Tryz.prog:=⟨393,Tryz.f393,Tryz.f393.body.getD .skip,Tryz.func393,by kernel_rfl,by kernel_rfl,zK.no _ _⟩
noncomputable def Tb393:Tb Tryz.prog:= {T:= [Y2,Y30],mix:=mix,Es:= [zS,zaA,zfs,E_spec_l08Atanh],Bs:= [],d:=1}
noncomputable def t_spec_AtanhI (a0:Iv):Tr (Iv):=
 .br (!(za a0)) (.leaf ze) (.br (zeD a0.lo) (.br (zeD a0.hi) (.leaf (zbC (F_spec_l08Atanh a0.lo) (F_spec_l08Atanh a0.hi))) (.bad)) (.bad))
theorem r_spec_AtanhI (a0:Iv):Tb393.run B393 [enc a0] (Iv)=(t_spec_AtanhI a0).opt:=by kernel_rfl
noncomputable def F_spec_AtanhI:Iv->Iv:=fun a0=>(t_spec_AtanhI a0).get
structure zdM where
 x0:I64
 x1:I64
 x2:I64
 x3:I64
 x4:I64
instance:Inhabited zdM:=⟨⟨default,default,default,default,default⟩⟩
noncomputable def st_impl_scaled_1 (x:zdM):St:=⟨[(1,.i64 x.x0),(2,.ptr 0 0),(4,.ptr 1 0)],27,⟨[(0,[.i64 x.x1,.i64 x.x2]),(1,[.i64 x.x3,.i64 x.x4])],2,0⟩⟩
noncomputable def rd_impl_scaled_1:St->Option zdM:=fun s=>match s with
 | ⟨[(1,.i64 x0),(2,.ptr 0 0),(4,.ptr 1 0)],27,⟨[(0,[.i64 x1,.i64 x2]),(1,[.i64 x3,.i64 x4])],2,0⟩⟩=>some ⟨x0,x1,x2,x3,x4⟩
 | _=>none
noncomputable def zdJ (x:zdM):Tr (Lp zdM):=
 .br (decide (x.x0.val>0)) (let c1:=zcg ⟨x.x1,x.x2⟩;.leaf (.again ⟨(Rng.w .i64 (x.x0.val-1)),c1.lo,c1.hi,x.x3,x.x4⟩)) (.leaf (.out ⟨x.x0,x.x1,x.x2,x.x3,x.x4⟩))
noncomputable def zfO (x:zdM):Bool:=(Lf zdJ 70 x).opt.isSome
noncomputable def L_impl_scaled_1 (x:zdM):zdM:=(Lf zdJ 70 x).get
noncomputable def TbL_impl_scaled_1:Tb Tryz.prog:= {T:= [Y30],mix:=mix,Es:= [E_impl_DoubleI],Bs:= [],d:=1}
noncomputable def P_impl_scaled_1:LpF:=loopF [1,2,4] [0,1] 2 rd_impl_scaled_1 st_impl_scaled_1 (.exit 0) zfO L_impl_scaled_1
theorem lok_impl_scaled_1:LoopOk Tryz.prog (loopAt (Tryz.f335.body.getD .skip) 0) P_impl_scaled_1:=zfw (t:=TbL_impl_scaled_1) (lt:=fun _=>none) (body:=zdJ) (n:=70) (by intro h;cases h) (fun _ _ _ h=>by cases h)
 (by intro s x h;unfold rd_impl_scaled_1 at h;split at h<;>cases h;rfl) (fun x b cs h=>lk_lt (l:=(st_impl_scaled_1 x).mm.blks) (by kernel_rfl) h) (by intro x;kernel_rfl) (fun x h=>Tr.get_some h)
noncomputable def B335:Bod Tryz.prog:=⟨335,Tryz.f335,Tryz.f335.body.getD .skip,Tryz.func335,by kernel_rfl,by kernel_rfl,⟨ltOf [(1,P_impl_scaled_1)],zK.of (ks:= [1]) (by kernel_rfl) (by
 intro i k h f hf
 match i,h with
 | 0,h=>cases h;obtain rfl:P_impl_scaled_1=f:=Option.some.inj hf;exact lok_impl_scaled_1
 | n+1,h=>simp at h)⟩⟩
noncomputable def Tb335:Tb Tryz.prog:= {T:= [Y2,Y30],mix:=mix,Es:= [zaW,zaa],Bs:= [],d:=1}
noncomputable def zd5 (a0:Iv) (a1:I64):Tr (Iv):=
 .br (zfO ⟨a1,a0.lo,a0.hi,⟨0,rfl⟩,⟨0,rfl⟩⟩) (let c3:=L_impl_scaled_1 ⟨a1,a0.lo,a0.hi,⟨0,rfl⟩,⟨0,rfl⟩⟩;.br (zX ⟨c3.x1,c3.x2⟩) (.leaf zq) (let c6:=(Rng.w .i64 (0-c3.x0.val));.br (decide (c6.val<0)) (.bad) (let c9:=(Rng.w .i64 (0-c3.x0.val));.br (decide (c9.val<0)) (.bad) (.leaf ⟨(Rng.w .i64 (c3.x1.val.fdiv (2^min (c6.val).toNat 64))),(Rng.w .i64 (0-(Rng.w .i64 ((Rng.w .i64 (0-c3.x2.val)).val.fdiv (2^min (c9.val).toNat 64))).val))⟩)))) (.bad)
theorem r_impl_scaled (a0:Iv) (a1:I64):Tb335.run B335 [enc a0,enc a1] (Iv)=(zd5 a0 a1).opt:=by kernel_rfl
noncomputable def F_impl_scaled:Iv->I64->Iv:=fun a0 a1=>(zd5 a0 a1).get
noncomputable def G_impl_scaled:Iv->I64->Bool:=fun a0 a1=>(zd5 a0 a1).opt.isSome
noncomputable def E_impl_scaled:Ent Tryz.prog:= .of2 Tb335 B335 G_impl_scaled F_impl_scaled fun a0 a1 h=>(r_impl_scaled a0 a1).trans (Tr.get_some h)
noncomputable def B368:Bod Tryz.prog:=⟨368,Tryz.f368,Tryz.f368.body.getD .skip,Tryz.func368,by kernel_rfl,by kernel_rfl,zK.no _ _⟩
noncomputable def Tb368:Tb Tryz.prog:= {T:= [Y2,Y30,Y162],mix:=mix,Es:= [zaJ],Bs:= [],d:=1}
noncomputable def t_spec_l08Scale (a0:Iv) (a1:I64):Tr (Iv):=
 .br (decide (a1.val>=0)) (.leaf (zR (Rng.w .i64 (a0.lo.val*(2^min ((Rng.w .u64 (a1.val)).val).toNat 64))) (Rng.w .i64 (a0.hi.val*(2^min ((Rng.w .u64 (a1.val)).val).toNat 64))))) (.leaf (zR (Rng.w .i64 (a0.lo.val.fdiv (2^min ((Rng.w .u64 ((Rng.w .i64 (0-a1.val)).val)).val).toNat 64))) (Rng.w .i64 (0-(Rng.w .i64 ((Rng.w .i64 (0-a0.hi.val)).val.fdiv (2^min ((Rng.w .u64 ((Rng.w .i64 (0-a1.val)).val)).val).toNat 64))).val))))
theorem r_spec_l08Scale (a0:Iv) (a1:I64):Tb368.run B368 [enc a0,enc a1] (Iv)=(t_spec_l08Scale a0 a1).opt:=by kernel_rfl
noncomputable def zdc:Iv->I64->Iv:=fun a0 a1=>(t_spec_l08Scale a0 a1).get
theorem u_spec_l08Scale (a0:Iv) (a1:I64):(t_spec_l08Scale a0 a1).opt=some (zdc a0 a1):=Tr.zz (by kernel_rfl)
noncomputable def E_spec_l08Scale:Ent Tryz.prog:= .of2 Tb368 B368 (fun _ _=>true) zdc fun a0 a1 _=>(r_spec_l08Scale a0 a1).trans (u_spec_l08Scale a0 a1)
noncomputable def B331:Bod Tryz.prog:=⟨331,Tryz.f331,Tryz.f331.body.getD .skip,Tryz.func331,by kernel_rfl,by kernel_rfl,zK.no _ _⟩
noncomputable def Tb331:Tb Tryz.prog:= {T:= [Y2,Y30],mix:=mix,Es:= [zbl,zcJ,zcn,zS,zbZ,zb8,E_spec_l03Ok,zfc,E_spec_l08One,ET_spec_LogTwoI,E_spec_l08Widen,E_spec_l08Scale],Bs:= [],d:=1}
noncomputable def t_spec_ExpAt (a0:I64):Tr (Iv):=
 .br (!(zD a0)) (.leaf ze) (.br (decide (a0.val>85899345920)) (.leaf ze) (.br (decide (a0.val<(-98784247808))) (.leaf ⟨⟨0,rfl⟩,⟨1,rfl⟩⟩) (let c8:=(Rng.w .i64 ((Rng.w .i64 ((Rng.w .i64 (2*a0.val)).val+2977044472)).val.tdiv 5954088944));.br (decide ((Rng.w .i64 ((Rng.w .i64 ((Rng.w .i64 (2*a0.val)).val+2977044472)).val.tmod 5954088944)).val<0)) (let c12:=(Rng.w .i64 (c8.val-1));let c15:=zF (zaT a0) (zaI c12);.leaf (zdc (zbT (zk zak (zn (zf c15 (zk zak (zn (zf c15 (zk zak (zn (zf c15 (zk zak (zn (zf c15 (zk zak (zn (zf c15 (zk zak (zn (zf c15 (zk zak (zn (zf c15 (zk zak (zn (zf c15 (zk zak (zn (zf c15 zak) (zb ⟨9,rfl⟩)))) (zb ⟨8,rfl⟩)))) (zb ⟨7,rfl⟩)))) (zb ⟨6,rfl⟩)))) (zb ⟨5,rfl⟩)))) (zb ⟨4,rfl⟩)))) (zb ⟨3,rfl⟩)))) (zb ⟨2,rfl⟩)))) (zb ⟨1,rfl⟩))) ⟨1,rfl⟩) c12)) (let c66:=zF (zaT a0) (zaI c8);.leaf (zdc (zbT (zk zak (zn (zf c66 (zk zak (zn (zf c66 (zk zak (zn (zf c66 (zk zak (zn (zf c66 (zk zak (zn (zf c66 (zk zak (zn (zf c66 (zk zak (zn (zf c66 (zk zak (zn (zf c66 (zk zak (zn (zf c66 zak) (zb ⟨9,rfl⟩)))) (zb ⟨8,rfl⟩)))) (zb ⟨7,rfl⟩)))) (zb ⟨6,rfl⟩)))) (zb ⟨5,rfl⟩)))) (zb ⟨4,rfl⟩)))) (zb ⟨3,rfl⟩)))) (zb ⟨2,rfl⟩)))) (zb ⟨1,rfl⟩))) ⟨1,rfl⟩) c8)))))
theorem r_spec_ExpAt (a0:I64):Tb331.run B331 [enc a0] (Iv)=(t_spec_ExpAt a0).opt:=by kernel_rfl
noncomputable def F_spec_ExpAt:I64->Iv:=fun a0=>(t_spec_ExpAt a0).get
theorem u_spec_ExpAt (a0:I64):(t_spec_ExpAt a0).opt=some (F_spec_ExpAt a0):=Tr.zz (by kernel_rfl)
noncomputable def E_spec_ExpAt:Ent Tryz.prog:= .of1 Tb331 B331 (fun _=>true) F_spec_ExpAt fun a0 _=>(r_spec_ExpAt a0).trans (u_spec_ExpAt a0)
noncomputable def B273:Bod Tryz.prog:=⟨273,Tryz.f273,Tryz.f273.body.getD .skip,Tryz.func273,by kernel_rfl,by kernel_rfl,zK.no _ _⟩
noncomputable def Tb273:Tb Tryz.prog:= {T:= [Y2,Y30],mix:=mix,Es:= [za7,zca,zbG,zcK,zb9,zaa,zfY,ET_impl_LogTwoI,zdR,E_impl_widened,E_impl_scaled],Bs:= [],d:=1}
noncomputable def t_impl_ExpAt (a0:I64):Tr (Iv):=
 .br (!(zaQ a0)) (.leaf zq) (.br (decide (a0.val>85899345920)) (.leaf zq) (.br (decide (a0.val<(-98784247808))) (.leaf ⟨⟨0,rfl⟩,⟨1,rfl⟩⟩) (let c8:=(Rng.w .i64 ((Rng.w .i64 ((Rng.w .i64 (2*a0.val)).val+2977044472)).val.tdiv 5954088944));.br (decide ((Rng.w .i64 ((Rng.w .i64 (c8.val*2)).val*2977044472)).val>(Rng.w .i64 ((Rng.w .i64 (2*a0.val)).val+2977044472)).val)) (let c14:=(Rng.w .i64 (c8.val-1));let c17:=zaq (zbc a0) (zek c14);let c64:=zeg (zL (zl ⟨1,rfl⟩) (zY (zt c17 (zL (zl ⟨1,rfl⟩) (zY (zt c17 (zL (zl ⟨1,rfl⟩) (zY (zt c17 (zL (zl ⟨1,rfl⟩) (zY (zt c17 (zL (zl ⟨1,rfl⟩) (zY (zt c17 (zL (zl ⟨1,rfl⟩) (zY (zt c17 (zL (zl ⟨1,rfl⟩) (zY (zt c17 (zL (zl ⟨1,rfl⟩) (zY (zt c17 (zL (zl ⟨1,rfl⟩) (zY (zt c17 (zl ⟨1,rfl⟩)) (zl ⟨9,rfl⟩)))) (zl ⟨8,rfl⟩)))) (zl ⟨7,rfl⟩)))) (zl ⟨6,rfl⟩)))) (zl ⟨5,rfl⟩)))) (zl ⟨4,rfl⟩)))) (zl ⟨3,rfl⟩)))) (zl ⟨2,rfl⟩)))) (zl ⟨1,rfl⟩))) ⟨1,rfl⟩;.br (G_impl_scaled c64 c14) (.leaf (F_impl_scaled c64 c14)) (.bad)) (let c68:=zaq (zbc a0) (zek c8);let c115:=zeg (zL (zl ⟨1,rfl⟩) (zY (zt c68 (zL (zl ⟨1,rfl⟩) (zY (zt c68 (zL (zl ⟨1,rfl⟩) (zY (zt c68 (zL (zl ⟨1,rfl⟩) (zY (zt c68 (zL (zl ⟨1,rfl⟩) (zY (zt c68 (zL (zl ⟨1,rfl⟩) (zY (zt c68 (zL (zl ⟨1,rfl⟩) (zY (zt c68 (zL (zl ⟨1,rfl⟩) (zY (zt c68 (zL (zl ⟨1,rfl⟩) (zY (zt c68 (zl ⟨1,rfl⟩)) (zl ⟨9,rfl⟩)))) (zl ⟨8,rfl⟩)))) (zl ⟨7,rfl⟩)))) (zl ⟨6,rfl⟩)))) (zl ⟨5,rfl⟩)))) (zl ⟨4,rfl⟩)))) (zl ⟨3,rfl⟩)))) (zl ⟨2,rfl⟩)))) (zl ⟨1,rfl⟩))) ⟨1,rfl⟩;.br (G_impl_scaled c115 c8) (.leaf (F_impl_scaled c115 c8)) (.bad)))))
theorem r_impl_ExpAt (a0:I64):Tb273.run B273 [enc a0] (Iv)=(t_impl_ExpAt a0).opt:=by kernel_rfl
noncomputable def F_impl_ExpAt:I64->Iv:=fun a0=>(t_impl_ExpAt a0).get
structure ze5 where
 x0:I64
 x1:I64
 x2:I64
 x3:I64
 x4:I64
instance:Inhabited ze5:=⟨⟨default,default,default,default,default⟩⟩
noncomputable def st_spec_TanI_4 (x:ze5):St:=⟨[(1,.ptr 0 0),(2,.ptr 1 0),(3,.i64 x.x0)],45,⟨[(0,[.i64 x.x1,.i64 x.x2]),(1,[.i64 x.x3,.i64 x.x4])],2,0⟩⟩
noncomputable def rd_spec_TanI_4:St->Option ze5:=fun s=>match s with
 | ⟨[(1,.ptr 0 0),(2,.ptr 1 0),(3,.i64 x0)],45,⟨[(0,[.i64 x1,.i64 x2]),(1,[.i64 x3,.i64 x4])],2,0⟩⟩=>some ⟨x0,x1,x2,x3,x4⟩
 | _=>none
noncomputable def b_spec_TanI_4 (x:ze5):Tr (Lp2 ze5):=
 .br (decide (x.x0.val<=(Rng.w .i64 ((zau x.x2).val+1)).val)) (.br ((Rng.w .i64 (zbJ .and .i64 x.x0.val 1)).val==1) (.br (zb4 (zW x.x0) ⟨x.x1,x.x2⟩) (.leaf (.out ⟨x.x0,x.x1,x.x2,zaK.lo,zaK.hi⟩)) (.leaf (.again ⟨(Rng.w .i64 (x.x0.val+1)),x.x1,x.x2,x.x3,x.x4⟩))) (.leaf (.again ⟨(Rng.w .i64 (x.x0.val+1)),x.x1,x.x2,x.x3,x.x4⟩))) (.leaf (.alt ⟨x.x0,x.x1,x.x2,x.x3,x.x4⟩))
noncomputable def G_spec_TanI_4 (x:ze5):Bool:=(Lf2 b_spec_TanI_4 1000 x).opt.isSome
noncomputable def L_spec_TanI_4 (x:ze5):Tw ze5:=(Lf2 b_spec_TanI_4 1000 x).get
noncomputable def TbL_spec_TanI_4:Tb Tryz.prog:= {T:= [Y2,Y30],mix:=mix,Es:= [E_spec_OverlapI,zcs,ET_spec_QuarterOf,ET_spec_TurnI],Bs:= [],d:=1}
noncomputable def P_spec_TanI_4:LpF:=loopF2 [1,2,3] [0,1] 2 rd_spec_TanI_4 st_spec_TanI_4 .ret (.exit 0) G_spec_TanI_4 L_spec_TanI_4
theorem lok_spec_TanI_4:LoopOk Tryz.prog (loopAt (Tryz.f152.body.getD .skip) 0) P_spec_TanI_4:=loopF2_ok (t:=TbL_spec_TanI_4) (lt:=fun _=>none) (body:=b_spec_TanI_4) (n:=1000) (by intro h;cases h) (by intro h;cases h) (fun _ _ _ h=>by cases h)
 (by intro s x h;unfold rd_spec_TanI_4 at h;split at h<;>cases h;rfl) (fun x b cs h=>lk_lt (l:=(st_spec_TanI_4 x).mm.blks) (by kernel_rfl) h) (by intro x;kernel_rfl) (fun x h=>Tr.get_some h)
noncomputable def B152:Bod Tryz.prog:=⟨152,Tryz.f152,Tryz.f152.body.getD .skip,Tryz.func152,by kernel_rfl,by kernel_rfl,⟨ltOf [(4,P_spec_TanI_4)],zK.of (ks:= [4]) (by kernel_rfl) (by
 intro i k h f hf
 match i,h with
 | 0,h=>cases h;obtain rfl:P_spec_TanI_4=f:=Option.some.inj hf;exact lok_spec_TanI_4
 | n+1,h=>simp at h)⟩⟩
noncomputable def Tb152:Tb Tryz.prog:= {T:= [Y2,Y30],mix:=mix,Es:= [zcs,zb8,E_spec_l06Fits,E_spec_HullI,ET_spec_QuarterOf,E_spec_SinAt,E_spec_CosAt],Bs:= [],d:=1}
noncomputable def t_spec_TanI (a0:Iv):Tr (Iv):=
 .br (!(zbW a0)) (.leaf zaK) (let c4:=(Rng.w .i64 ((zau a0.lo).val-1));.br (G_spec_TanI_4 ⟨c4,a0.lo,a0.hi,⟨0,rfl⟩,⟨0,rfl⟩⟩) (let c14:=L_spec_TanI_4 ⟨c4,a0.lo,a0.hi,⟨0,rfl⟩,⟨0,rfl⟩⟩;.br c14.b (.leaf ⟨c14.s.x3,c14.s.x4⟩) (.leaf (zT (zn (F_spec_SinAt c14.s.x1) (F_spec_CosAt c14.s.x1)) (zn (F_spec_SinAt c14.s.x2) (F_spec_CosAt c14.s.x2))))) (.bad))
theorem r_spec_TanI (a0:Iv):Tb152.run B152 [enc a0] (Iv)=(t_spec_TanI a0).opt:=by kernel_rfl
noncomputable def F_spec_TanI:Iv->Iv:=fun a0=>(t_spec_TanI a0).get
end
end Go.Proofs.YtkenfaengphiiaaGreat.Ev
namespace Go.Proofs.YtkenfaengphiiaaGreat.Ev
open Go
theorem ends8 (a b:Iv):(bif !(za a&&za b) then ze else zR a.lo b.hi)=zbC a b:=by
 simp only [zbC,zfd,Tr.get]
 cases za a<;>cases za b<;>simp [ctr,cfl]
theorem logI_eq (x:Iv):F_impl_LogI x=F_spec_LogI x:=by
 simp only [F_impl_LogI,t_impl_LogI,F_spec_LogI,t_spec_LogI,Tr.get,isw_eq,areb_eq,zaS,zcN,logAt_eq,ctr,ends8]
theorem l08At_eq {n:I64} (h: -1152921504606846976<n.val/\n.val<1152921504606846976):zaT n=zA n:=by
 simp only [zaT,t_spec_l08At,zA,t_spec_l05At,Tr.get]
 exact zbI (by omega)
theorem atanhp (n:I64) (h:0<=n.val):(zem n).opt=some (zfV n):=by
 have hn:decide (n.val<0)=false:=by simp;omega
 simp only [zem,Tr.opt,zfV,t_impl_AtanhI_1,Tr.get,hn,cond_false,halfI_eq,logI_eq,divI_F,zaS]
 by_cases hU:n.val>=4294967296
 ·simp only [hU,decide_true,cond_true]
 ·have e1:(Rng.w .i64 (4294967296+n.val)).val=4294967296+n.val:=wi (by omega) (by omega)
  have e2:(Rng.w .i64 (4294967296-n.val)).val=4294967296-n.val:=wi (by omega) (by omega)
  simp only [hU,decide_false,cond_false]
  rw [l08At_eq (n:= .w .i64 (4294967296+n.val)) (by omega),l08At_eq (n:= .w .i64 (4294967296-n.val)) (by omega),at_eq,at_eq]
theorem atanh_n (n:I64) (h: -1152921504606846976<n.val/\n.val<1152921504606846976):(zfE n).opt=some (zbQ n ⟨⟩):=by
 by_cases hn:n.val<0
 ·have e1:(Rng.w .i64 (0-n.val)).val=0-n.val:=wi (by omega) (by omega)
  have a1:=atanhp (.w .i64 (0-n.val)) (by omega)
  have g1:G_spec_l08Atanh_p (.w .i64 (0-n.val))=true:=by unfold G_spec_l08Atanh_p;rw [a1];rfl
  have f1:F_spec_l08Atanh_p (.w .i64 (0-n.val))=_:=Tr.zae a1
  have hd:decide (n.val<0)=true:=by simpa using hn
  simp only [zfE,Tr.opt,zbQ,zeA,Tr.get,hd,cond_true,g1,f1,neg_eq]
 ·have a1:=atanhp n (by omega)
  have hd:decide (n.val<0)=false:=by simpa using hn
  simp only [zem,Tr.opt,hd,cond_false] at a1
  simp only [zfE,Tr.opt,zbQ,zeA,Tr.get,hd,cond_false]
  exact a1
theorem atanh_ok (x:Iv):∃y,(t_spec_AtanhI x).opt=some y/\(t_impl_AtanhI x).opt=some y:=by
 simp only [t_spec_AtanhI,t_impl_AtanhI,Tr.opt,isw_eq,areb_eq,zaS,zcN]
 cases h:za x
 ·exact ⟨_,rfl,rfl⟩
 have hb:=(zaN x).1 h
 have a1:=atanh_n x.lo (by omega)
 have a2:=atanh_n x.hi (by omega)
 have g1:zeD x.lo=true:=by unfold zeD;rw [a1];rfl
 have g2:zeD x.hi=true:=by unfold zeD;rw [a2];rfl
 have f1:F_spec_l08Atanh x.lo=_:=Tr.zae a1
 have f2:F_spec_l08Atanh x.hi=_:=Tr.zae a2
 simp only [Bool.not_true,cond_false,cond_true,g1,g2,f1,f2,zbC,zfd,Tr.get]
 cases za (zbQ x.lo ⟨⟩)<;>cases za (zbQ x.hi ⟨⟩)<;>exact ⟨_,rfl,rfl⟩
theorem atanhI_eq (x:Iv):F_impl_AtanhI x=F_spec_AtanhI x:=by
 obtain ⟨y,h1,h2⟩:=atanh_ok x
 exact (Tr.zae h2).trans (Tr.zae h1).symm
theorem tt_atanh_spec (x:Iv):(t_spec_AtanhI x).opt=some (F_spec_AtanhI x):=by obtain ⟨y,h1,_⟩:=atanh_ok x;exact zc6 h1
theorem tt_atanh_impl (x:Iv):(t_impl_AtanhI x).opt=some (F_impl_AtanhI x):=by obtain ⟨y,_,h1⟩:=atanh_ok x;exact zc6 h1
end Go.Proofs.YtkenfaengphiiaaGreat.Ev
namespace Go.Proofs.YtkenfaengphiiaaGreat.Ev
open Go
theorem quoS {x m:Int} (hx: -4294967296<=x/\x<=4294967296) (hm:1<=m): -4294967296<=x*4294967296/(m*4294967296)/\x*4294967296/(m*4294967296)<=4294967296 /\ -4294967296 <= -x*4294967296/(m*4294967296) /\ -x*4294967296/(m*4294967296)<=4294967296 /\
  x*4294967296/(m*4294967296) <= -(-x*4294967296/(m*4294967296)):=by
 rw [Int.mul_ediv_mul_of_pos_left _ _ (by decide),Int.mul_ediv_mul_of_pos_left _ _ (by decide)]
 have h1:=ediv_bd (M:=4294967296) (N:=x) (d:=m) (by omega) (by omega) (by omega)
 have h3:=ediv_bd (M:=4294967296) (N:= -x) (d:=m) (by omega) (by omega) (by omega)
 have h4: -x/m <= -(x/m):=by
  have e1:=Int.mul_ediv_add_emod x m
  have e2:=Int.emod_nonneg x (show m≠0 by omega)
  have hh: -x<=m * -(x/m):=by rw [Int.mul_neg];omega
  have h5: -x/m<=(m * -(x/m))/m:=Int.ediv_le_ediv (by omega) hh
  rw [Int.mul_ediv_cancel_left _ (by omega)] at h5
  exact h5
 omega
def InR (a:Iv):Prop:= -4294967296<=a.lo.val/\a.lo.val<=a.hi.val/\a.hi.val<=4294967296
theorem InR.ok {a:Iv} (h:InR a):za a=true:=(zaN a).2 (by unfold InR at h;omega)
theorem divS {y:Iv} {n:I64} (hy:InR y) (hn:1<=n.val/\n.val<=1000000):InR (zn y (zb n)):=by
 have h1:=hy
 unfold InR at h1
 rw [int_val (by omega)]
 have ev:(Rng.w .i64 (n.val*4294967296)).val=n.val*4294967296:=wi (by omega) (by omega)
 obtain ⟨lo,hi,e,h⟩:=divI_in (a:=y) (b:=⟨.w .i64 (n.val*4294967296),.w .i64 (n.val*4294967296)⟩) (L:= -4294967296) (H:=4294967296) hy.ok ((zaN _).2 (by simp only [ev];omega))
  (by simp only [za5,zcZ,Tr.get,zft,ev];simp;omega) (by decide) (by decide) (fun x z hx hz=>by
   have hz':z= .w .i64 (n.val*4294967296):=by rcases hz with h|h<;>exact h
   subst hz'
   have hx1: -4294967296<=x.val/\x.val<=4294967296:=by rcases hx with rfl|rfl<;>omega
   obtain ⟨q1,q2,q3,q4,q5⟩:=quoS hx1 hn.1
   have en:(Rng.w .i64 (0-x.val)).val= -x.val:=by rw [wi (by omega) (by omega)];omega
   have m1:MD x ⟨4294967296,rfl⟩ (.w .i64 (n.val*4294967296))=⟨.w .i64 (x.val*4294967296/(n.val*4294967296)),true⟩:=by
    unfold MD;rw [if_pos (by rw [ev];omega),ev];exact narrow_ok (v:=x.val*4294967296/(n.val*4294967296)) (by omega) (by omega)
   have m2:MD (.w .i64 (0-x.val)) ⟨4294967296,rfl⟩ (.w .i64 (n.val*4294967296))=⟨.w .i64 (-x.val*4294967296/(n.val*4294967296)),true⟩:=by
    unfold MD;rw [if_pos (by rw [ev];omega),ev,en];exact narrow_ok (v:= -x.val*4294967296/(n.val*4294967296)) (by omega) (by omega)
   have o1:zD x=true:=ok3 (by omega)
   have o2:zD (.w .i64 (0-x.val))=true:=ok3 (by rw [en];omega)
   have o3:zD (.w .i64 (n.val*4294967296))=true:=ok3 (by rw [ev];omega)
   have z0:((Rng.w .i64 (n.val*4294967296)).val==0)=false:=by rw [ev];simp;omega
   have z1:decide ((Rng.w .i64 (n.val*4294967296)).val<0)=false:=by rw [ev];simp;omega
   have d1:zP x (.w .i64 (n.val*4294967296))=⟨.w .i64 (x.val*4294967296/(n.val*4294967296)),true⟩:=by
    simp only [zP,zbo,Tr.get,o1,o3,z0,z1,Bool.not_true,cond_false,md_F_spec,m1]
    rw [end_ok (by rw [wi (by omega) (by omega)];omega)]
   have d2:zP (.w .i64 (0-x.val)) (.w .i64 (n.val*4294967296))=⟨.w .i64 (-x.val*4294967296/(n.val*4294967296)),true⟩:=by
    simp only [zP,zbo,Tr.get,o2,o3,z0,z1,Bool.not_true,cond_false,md_F_spec,m2]
    rw [end_ok (by rw [wi (by omega) (by omega)];omega)]
   have d3:zal x (.w .i64 (n.val*4294967296))=⟨.w .i64 (0 - -x.val*4294967296/(n.val*4294967296)),true⟩:=by
    simp only [zal,zc0,Tr.get,o1,d2,Bool.not_true,cond_false]
    rw [wi (n:= -x.val*4294967296/(n.val*4294967296)) (by omega) (by omega)]
   refine ⟨_,_,d1,d3,?_,?_,?_⟩
   ·rw [wi (by omega) (by omega)];omega
   ·rw [wi (by omega) (by omega),wi (by omega) (by omega)];omega
   ·rw [wi (by omega) (by omega)];omega)
 rw [e];exact h
theorem md_boxS {x y:I64} (hx: -2147483648<=x.val/\x.val<=2147483648) (hy:0<=y.val/\y.val<=8589934592):
  ∃d u,zO x y=⟨d,true⟩/\zaf x y=⟨u,true⟩ /\ -4294967296<=d.val/\d.val<=u.val/\u.val<=4294967296:=by
 have h1:x.val*y.val<=2147483648*8589934592:=by
  by_cases h:0<=x.val
  ·exact Int.mul_le_mul hx.2 hy.2 hy.1 (by decide)
  ·have:=Int.mul_nonneg (show 0 <= -x.val by omega) hy.1
   rw [Int.neg_mul] at this;omega
 have h2: -(2147483648*8589934592)<=x.val*y.val:=by
  by_cases h:0<=x.val
  ·have:=Int.mul_nonneg h hy.1;omega
  ·have:=Int.mul_le_mul (a:= -x.val) (b:=y.val) (c:=2147483648) (d:=8589934592) (by omega) hy.2 hy.1 (by decide)
   rw [Int.neg_mul] at this;omega
 have e1:=muldown_val (a:=x) (b:=y) (ok3 (by omega)) (ok3 (by omega)) (by omega)
 have e2:=mulup_val (a:=x) (b:=y) (ok3 (by omega)) (ok3 (by omega)) (by omega)
 refine ⟨_,_,e1,e2,?_,?_,?_⟩
 ·rw [wi (by omega) (by omega)];omega
 ·rw [wi (by omega) (by omega),wi (by omega) (by omega)];omega
 ·rw [wi (by omega) (by omega)];omega
def In02 (a:Iv):Prop:=0<=a.lo.val/\a.lo.val<=a.hi.val/\a.hi.val<=8589934592
def InH (a:Iv):Prop:= -2147483648<=a.lo.val/\a.lo.val<=a.hi.val/\a.hi.val<=2147483648
theorem In02.ok {a:Iv} (h:In02 a):za a=true:=(zaN a).2 (by unfold In02 at h;omega)
theorem InH.ok {a:Iv} (h:InH a):za a=true:=(zaN a).2 (by unfold InH at h;omega)
theorem mulS {a b:Iv} (ha:InH a) (hb:In02 b):InR (zf a b):=by
 have h1:=ha;have h2:=hb
 unfold InH at h1;unfold In02 at h2
 obtain ⟨lo,hi,e,h⟩:=mulI_in (L:= -4294967296) (H:=4294967296) ha.ok hb.ok (by decide) (by decide) (fun x y hx hy=>by
  obtain ⟨d,u,k1,k2,k3,k4,k5⟩:=md_boxS (x:=x) (y:=y) (by rcases hx with rfl|rfl<;>omega) (by rcases hy with rfl|rfl<;>omega)
  exact ⟨d,u,k1,k2,k3,k4,k5⟩)
 rw [e];exact h
theorem oneVal:zak=⟨⟨4294967296,rfl⟩,⟨4294967296,rfl⟩⟩:=by rw [<- one_eq,int_val (by decide)];rfl
theorem addS {a:Iv} (ha:InR a):In02 (zk zak a):=by
 have h1:=ha
 unfold InR at h1
 have o1:za ⟨⟨4294967296,rfl⟩,⟨4294967296,rfl⟩⟩=true:=(zaN _).2 (by decide)
 rw [oneVal]
 simp only [zk,zc2,Tr.get,o1,ha.ok,Bool.not_true,cond_false]
 have k1:(Rng.w .i64 (4294967296+a.lo.val)).val=4294967296+a.lo.val:=wi (by omega) (by omega)
 have k2:(Rng.w .i64 (4294967296+a.hi.val)).val=4294967296+a.hi.val:=wi (by omega) (by omega)
 rw [zbI (by rw [k1,k2];omega)]
 unfold In02
 simp only [k1,k2]
 omega
noncomputable def expS (r:Iv) (n:I64) (p:Iv):Iv:=zk zak (zn (zf r p) (zb n))
theorem stepS {r p:Iv} {n:I64} (hr:InH r) (hp:In02 p) (hn:1<=n.val/\n.val<=1000000):In02 (expS r n p):=addS (divS (mulS hr hp) hn)
theorem one02:In02 zak:=by rw [oneVal];unfold In02;decide
noncomputable def expP (r:Iv):Iv:=expS r ⟨1,rfl⟩ (expS r ⟨2,rfl⟩ (expS r ⟨3,rfl⟩ (expS r ⟨4,rfl⟩ (expS r ⟨5,rfl⟩ (expS r ⟨6,rfl⟩ (expS r ⟨7,rfl⟩ (expS r ⟨8,rfl⟩ (expS r ⟨9,rfl⟩ zak))))))))
theorem expP_in {r:Iv} (hr:InH r):In02 (expP r):=by
 unfold expP
 repeat' (first|exact one02|refine stepS hr ?_ (by decide))
theorem widen_in {p:Iv} (h:In02 p):zbT p ⟨1,rfl⟩=⟨.w .i64 (p.lo.val-1),.w .i64 (p.hi.val+1)⟩/\(Rng.w .i64 (p.lo.val-1)).val=p.lo.val-1/\(Rng.w .i64 (p.hi.val+1)).val=p.hi.val+1:=by
 have h1:=h
 unfold In02 at h1
 have k1:(Rng.w .i64 (p.lo.val-1)).val=p.lo.val-1:=wi (by omega) (by omega)
 have k2:(Rng.w .i64 (p.hi.val+1)).val=p.hi.val+1:=wi (by omega) (by omega)
 refine ⟨?_,k1,k2⟩
 simp only [zbT,t_spec_l08Widen,Tr.get,h.ok,Bool.not_true,cond_false]
 exact zbI (by rw [k1,k2];omega)
theorem logp_val (k:I64) (h:0<=k.val) (h':k.val<=64):∃x:Iv,(zcx k).opt=some x/\za x=true/\k.val*2977044472-64<=x.lo.val/\x.lo.val<=x.hi.val/\x.hi.val<=k.val*2977044472+64:=by
 have hi:zaj k ⟨(-64),rfl⟩ ⟨64,rfl⟩=true:=by rw [zft];simp;omega
 have hn:decide (k.val<0)=false:=by simp;omega
 obtain ⟨e1,e2,b1,b2,b3⟩:=log_lo h h'
 have v1:(Rng.w .i64 (k.val*1598288580650331957/536870912)).val=k.val*1598288580650331957/536870912:=wi (by omega) (by omega)
 have v2:(Rng.w .i64 ((0-k.val)*1598288580650331958/536870912)).val=(0-k.val)*1598288580650331958/536870912:=wi (by omega) (by omega)
 have v3:(Rng.w .i64 (0-(0-k.val)*1598288580650331958/536870912)).val=0-(0-k.val)*1598288580650331958/536870912:=wi (by omega) (by omega)
 have hok: -1152921504606846976<(Rng.w .i64 (k.val*1598288580650331957/536870912)).val/\(Rng.w .i64 (k.val*1598288580650331957/536870912)).val<=(Rng.w .i64 (0-(Rng.w .i64 ((0-k.val)*1598288580650331958/536870912)).val)).val/\(Rng.w .i64 (0-(Rng.w .i64 ((0-k.val)*1598288580650331958/536870912)).val)).val<1152921504606846976:=by
  rw [v1,v2,v3];omega
 refine ⟨⟨.w .i64 (k.val*1598288580650331957/536870912),.w .i64 (0-(Rng.w .i64 ((0-k.val)*1598288580650331958/536870912)).val)⟩,?_,(zaN _).2 hok,?_,hok.2.1,?_⟩
 ·simp only [zcx,Tr.opt,hi,hn,Bool.not_true,cond_false,e1,e2]
  rw [zbI hok]
 ·simp only [v1];omega
 ·simp only [v2,v3];omega
theorem log2_val (k:I64) (h: -64<=k.val/\k.val<=64):k.val*2977044472-64<=(zaI k).lo.val/\(zaI k).lo.val<=(zaI k).hi.val/\(zaI k).hi.val<=k.val*2977044472+64:=by
 have hi:zaj k ⟨(-64),rfl⟩ ⟨64,rfl⟩=true:=by rw [zft];simpa using h
 by_cases hn:k.val<0
 ·have e1:(Rng.w .i64 (0-k.val)).val=0-k.val:=wi (by omega) (by omega)
  obtain ⟨x,h1,h2,h3,h4,h5⟩:=logp_val (.w .i64 (0-k.val)) (by omega) (by omega)
  have g1:zeT (.w .i64 (0-k.val))=true:=by unfold zeT;rw [h1];rfl
  have f1:F_spec_LogTwoI_p (.w .i64 (0-k.val))=x:=Tr.zae h1
  have hd:decide (k.val<0)=true:=by simpa using hn
  have e:zaI k=zaO x:=Tr.zae (by simp only [zdz,Tr.opt,hi,hd,g1,f1,cond_true,cond_false,Bool.not_true])
  have hb:=(zaN x).1 h2
  rw [e,neg_ok_val h2]
  simp only
  rw [wi (n:=0-x.hi.val) (by omega) (by omega),wi (n:=0-x.lo.val) (by omega) (by omega)]
  rw [e1] at h3 h5
  omega
 ·obtain ⟨x,h1,h2,h3,h4,h5⟩:=logp_val k (by omega) (by omega)
  have hd:decide (k.val<0)=false:=by simpa using hn
  have e:zaI k=x:=Tr.zae (by
   simp only [zcx,Tr.opt,hd] at h1
   simp only [zdz,Tr.opt,hd]
   exact h1)
  rw [e]
  exact ⟨h3,h4,h5⟩
theorem atV {n:I64} (h: -1152921504606846976<n.val/\n.val<1152921504606846976):zaT n=⟨n,n⟩:=by
 simp only [zaT,t_spec_l08At,Tr.get]
 exact zbI ⟨h.1,by omega,h.2⟩
theorem rest_in {n k:I64} (hn: -98784247808<=n.val/\n.val<=85899345920) (hk:k.val=(2*n.val+2977044472)/5954088944):InH (zF (zaT n) (zaI k)):=by
 have hl:=log2_val k (by omega)
 have o1:za ⟨n,n⟩=true:=(zaN _).2 (by simp only;omega)
 have o2:za (zaI k)=true:=(zaN _).2 (by omega)
 rw [atV (by omega)]
 simp only [zF,t_spec_SubI,Tr.get,o1,o2,Bool.not_true,cond_false]
 have k1:(Rng.w .i64 (n.val-(zaI k).hi.val)).val=n.val-(zaI k).hi.val:=wi (by omega) (by omega)
 have k2:(Rng.w .i64 (n.val-(zaI k).lo.val)).val=n.val-(zaI k).lo.val:=wi (by omega) (by omega)
 rw [zbI (by rw [k1,k2];omega)]
 unfold InH
 simp only [k1,k2]
 omega
end Go.Proofs.YtkenfaengphiiaaGreat.Ev
namespace Go.Proofs.YtkenfaengphiiaaGreat.Ev
open Go
noncomputable def dbl (x:Iv):Nat->Iv
 | 0=>x
 | n+1=>dbl (zcg x) n
theorem scaled_loop (p q:I64):∀(n m:Nat) (k:I64) (x:Iv),k.val=n->n<=60->(Lf zdJ (n+1+m) ⟨k,x.lo,x.hi,p,q⟩).opt=some ⟨.w .i64 (0:Int),(dbl x n).lo,(dbl x n).hi,p,q⟩:=by
 intro n
 induction n with
 | zero=>
  intro m k x hk _
  have hd:decide (k.val>0)=false:=by simp;omega
  have hz:k= .w .i64 (0:Int):=by apply Rng.ext;rw [wi (by omega) (by omega)];simpa using hk
  rw [show 0+1+m=m+1 by omega]
  simp only [Lf,zdJ,hd,Tr.bind,Tr.opt,cond_false,dbl]
  rw [hz]
 | succ n ih=>
  intro m k x hk hn
  have hd:decide (k.val>0)=true:=by simp;omega
  have e1:(Rng.w .i64 (k.val-1)).val=k.val-1:=wi (by omega) (by omega)
  rw [show n+1+1+m=(n+1+m)+1 by omega]
  have:=ih m (.w .i64 (k.val-1)) (zcg x) (by rw [e1];omega) (by omega)
  simp only [Lf,zdJ,hd,Tr.bind,Tr.opt,cond_true,dbl]
  exact this
theorem scaled_neg (p q:I64) (m:Nat) (k:I64) (x:Iv) (hk:k.val<=0):(Lf zdJ (m+1) ⟨k,x.lo,x.hi,p,q⟩).opt=some ⟨k,x.lo,x.hi,p,q⟩:=by
 have hd:decide (k.val>0)=false:=by simp;omega
 simp only [Lf,zdJ,hd,Tr.bind,Tr.opt,cond_false]
theorem dbl_step (x:Iv):∀n,dbl x (n+1)=zcg (dbl x n)
 | 0=>rfl
 | n+1=>by rw [dbl,dbl_step (zcg x) n,dbl]
theorem dbl_val {x:Iv} (hx: -1<=x.lo.val/\x.lo.val<=x.hi.val/\x.hi.val<=8589934593):∀j:Nat,j<=29->dbl x j=zR (.w .i64 (x.lo.val*2^j)) (.w .i64 (x.hi.val*2^j)):=by
 intro j
 induction j with
 | zero=>
  intro _
  have h1:(Rng.w .i64 (x.lo.val*2^0)).val=x.lo.val:=by rw [wi (by omega) (by omega)];omega
  have h2:(Rng.w .i64 (x.hi.val*2^0)).val=x.hi.val:=by rw [wi (by omega) (by omega)];omega
  rw [zbI (by rw [h1,h2];omega)]
  have e1:Rng.w .i64 (x.lo.val*2^0)=x.lo:=Rng.ext h1
  have e2:Rng.w .i64 (x.hi.val*2^0)=x.hi:=Rng.ext h2
  rw [e1,e2];rfl
 | succ j ih=>
  intro hj
  rw [dbl_step,ih (by omega),double_eq]
  have hp:(2:Int)^(j+1)=2^j*2:=Int.pow_succ ..
  have hp1:(1:Int)<=2^j:=Int.add_one_le_of_lt (Int.pow_pos (show (0:Int)<2 by decide))
  have hp2:(2:Int)^j<=268435456:=by
   have:j=0\/j=1\/j=2\/j=3\/j=4\/j=5\/j=6\/j=7\/j=8\/j=9\/j=10\/j=11\/j=12\/j=13\/j=14\/j=15\/j=16\/j=17\/j=18\/j=19\/j=20\/j=21\/j=22\/j=23\/j=24\/j=25\/j=26\/j=27\/j=28:=by omega
   rcases this with rfl|rfl|rfl|rfl|rfl|rfl|rfl|rfl|rfl|rfl|rfl|rfl|rfl|rfl|rfl|rfl|rfl|rfl|rfl|rfl|rfl|rfl|rfl|rfl|rfl|rfl|rfl|rfl|rfl<;>decide
  generalize (2:Int)^j=t at hp hp1 hp2
  rw [hp]
  have l1: -t<=x.lo.val*t:=by
   have:=Int.mul_le_mul_of_nonneg_right (show (-1:Int)<=x.lo.val by omega) (show 0<=t by omega)
   omega
  have l2:x.lo.val*t<=x.hi.val*t:=Int.mul_le_mul_of_nonneg_right hx.2.1 (by omega)
  have l3:x.hi.val*t<=8589934593*t:=Int.mul_le_mul_of_nonneg_right hx.2.2 (by omega)
  have e1:x.lo.val*(t*2)=x.lo.val*t*2:=by rw [Int.mul_assoc]
  have e2:x.hi.val*(t*2)=x.hi.val*t*2:=by rw [Int.mul_assoc]
  rw [e1,e2]
  generalize x.lo.val*t=a at *
  generalize x.hi.val*t=b at *
  have v1:(Rng.w .i64 a).val=a:=wi (by omega) (by omega)
  have v2:(Rng.w .i64 b).val=b:=wi (by omega) (by omega)
  have v3:(Rng.w .i64 (a*2)).val=a*2:=wi (by omega) (by omega)
  have v4:(Rng.w .i64 (b*2)).val=b*2:=wi (by omega) (by omega)
  by_cases hb:b<1152921504606846976
  ·have hm: -1152921504606846976<(Rng.w .i64 a).val/\(Rng.w .i64 a).val<=(Rng.w .i64 b).val/\(Rng.w .i64 b).val<1152921504606846976:=by rw [v1,v2];omega
   rw [zbI hm]
   have ho:za ⟨.w .i64 a,.w .i64 b⟩=true:=(zaN _).2 hm
   simp only [za6,zdA,zk,zc2,Tr.get,ho,Bool.not_true,cond_false,v1,v2]
   rw [show 2*a=a*2 by omega,show 2*b=b*2 by omega]
  ·rw [make_no (by rw [v1,v2];omega),make_no (by rw [v3,v4];omega)]
   simp only [za6,zdA,zk,zc2,Tr.get,zcv,Bool.not_false,ctr]
theorem pow_min {k:Int} (h:0<=k) (h':k<=60):(min k.toNat 64)=k.toNat:=by omega
theorem fdiv_one (n:Int):n.fdiv 1=n:=by rw [Int.fdiv_eq_ediv_of_nonneg _ (by decide)];omega
theorem scaled_eq {x:Iv} {k:I64} (hx: -1<=x.lo.val/\x.lo.val<=x.hi.val/\x.hi.val<=8589934593) (hk: -40<=k.val/\k.val<=29):(zd5 x k).opt=some (zdc x k):=by
 by_cases h0:0<=k.val
 ·obtain ⟨n,hn⟩:=Int.eq_ofNat_of_zero_le h0
  have a1:=scaled_loop ⟨0,rfl⟩ ⟨0,rfl⟩ n (69-n) k x hn (by omega)
  rw [show n+1+(69-n)=70 by omega,dbl_val hx n (by omega)] at a1
  have g1:zfO ⟨k,x.lo,x.hi,⟨0,rfl⟩,⟨0,rfl⟩⟩=true:=by unfold zfO;rw [a1];rfl
  have l1:L_impl_scaled_1 ⟨k,x.lo,x.hi,⟨0,rfl⟩,⟨0,rfl⟩⟩=_:=Tr.zae a1
  have hd:decide (k.val>=0)=true:=by simpa using h0
  have hu:(Rng.w .u64 k.val).val=k.val:=wu (by omega) (by omega)
  have hs:zdc x k=zR (.w .i64 (x.lo.val*2^n)) (.w .i64 (x.hi.val*2^n)):=by
   simp only [zdc,t_spec_l08Scale,Tr.get,hd,ctr,hu,pow_min h0 (by omega:k.val<=60)]
   rw [hn];rfl
  rw [hs]
  have z0:(Rng.w .i64 (0-(Rng.w .i64 (0:Int)).val)).val=0:=by rw [wi (n:=0) (by decide) (by decide),wi (by omega) (by omega)];rfl
  have zd:decide ((0:Int)<0)=false:=by decide
  simp only [zd5,Tr.opt,g1,l1,ctr,z0,zd,cfl,isw_eq]
  generalize hmk:zR (.w .i64 (x.lo.val*2^n)) (.w .i64 (x.hi.val*2^n))=y
  have hy:za y=true\/y=ze:=by
   by_cases hm: -1152921504606846976<(Rng.w .i64 (x.lo.val*2^n)).val/\(Rng.w .i64 (x.lo.val*2^n)).val<=(Rng.w .i64 (x.hi.val*2^n)).val/\(Rng.w .i64 (x.hi.val*2^n)).val<1152921504606846976
   ·left;rw [<- hmk,zbI hm];exact (zaN _).2 hm
   ·right;rw [<- hmk];exact make_no hm
  rcases hy with hy|hy
  ·have hb:=(zaN y).1 hy
   have e1:(Rng.w .i64 (y.lo.val.fdiv (2^min (Int.toNat 0) 64)))=y.lo:=by
    apply Rng.ext
    rw [show (2:Int)^min (Int.toNat 0) 64=1 from rfl,fdiv_one,wi (by omega) (by omega)]
   have e2:(Rng.w .i64 (0-(Rng.w .i64 ((Rng.w .i64 (0-y.hi.val)).val.fdiv (2^min (Int.toNat 0) 64))).val))=y.hi:=by
    apply Rng.ext
    rw [show (2:Int)^min (Int.toNat 0) 64=1 from rfl,fdiv_one,wi (n:=0-y.hi.val) (by omega) (by omega),wi (n:=0-y.hi.val) (by omega) (by omega),wi (by omega) (by omega)]
    omega
   simp only [hy,Bool.not_true,cfl,e1,e2]
  ·rw [hy]
   have hw:(⟨ze.lo,ze.hi⟩:Iv)=ze:=rfl
   simp only [hw,zcv,Bool.not_false,ctr,zaS]
 ·have a1:=scaled_neg ⟨0,rfl⟩ ⟨0,rfl⟩ 69 k x (by omega)
  have g1:zfO ⟨k,x.lo,x.hi,⟨0,rfl⟩,⟨0,rfl⟩⟩=true:=by unfold zfO;rw [a1];rfl
  have l1:L_impl_scaled_1 ⟨k,x.lo,x.hi,⟨0,rfl⟩,⟨0,rfl⟩⟩=_:=Tr.zae a1
  have hd:decide (k.val>=0)=false:=by simp;omega
  have ho:za ⟨x.lo,x.hi⟩=true:=(zaN _).2 (by simp only;omega)
  have e1:(Rng.w .i64 (0-k.val)).val= -k.val:=by rw [wi (by omega) (by omega)];omega
  have hu:(Rng.w .u64 (-k.val)).val= -k.val:=wu (by omega) (by omega)
  have hd2:decide (-k.val<0)=false:=by simp;omega
  simp only [zd5,Tr.opt,g1,l1,ctr,e1,hd2,cfl,isw_eq,ho,Bool.not_true,zdc,t_spec_l08Scale,Tr.get,hd,hu]
  generalize hp:(2:Int)^min (-k.val).toNat 64=t
  have ht:1<=t:=by rw [<- hp];exact Int.add_one_le_of_lt (Int.pow_pos (show (0:Int)<2 by decide))
  have f1:x.lo.val.fdiv t=x.lo.val/t:=Int.fdiv_eq_ediv_of_nonneg _ (by omega)
  have n1:(Rng.w .i64 (0-x.hi.val)).val= -x.hi.val:=by rw [wi (by omega) (by omega)];omega
  have f2:(-x.hi.val).fdiv t= -x.hi.val/t:=Int.fdiv_eq_ediv_of_nonneg _ (by omega)
  have b1:=ediv_bd (M:=8589934593) (N:=x.lo.val) (d:=t) (by omega) (by omega) (by omega)
  have b2:=ediv_bd (M:=8589934593) (N:= -x.hi.val) (d:=t) (by omega) (by omega) (by omega)
  have b3: -x.hi.val/t <= -(x.lo.val/t):=by
   have c1:=Int.mul_ediv_add_emod x.lo.val t
   have c2:=Int.emod_nonneg x.lo.val (show t≠0 by omega)
   have hh: -x.hi.val<=t * -(x.lo.val/t):=by rw [Int.mul_neg];omega
   have h5: -x.hi.val/t<=(t * -(x.lo.val/t))/t:=Int.ediv_le_ediv (by omega) hh
   rw [Int.mul_ediv_cancel_left _ (by omega)] at h5
   exact h5
  rw [f1,n1,f2]
  have v1:(Rng.w .i64 (x.lo.val/t)).val=x.lo.val/t:=wi (by omega) (by omega)
  have v2:(Rng.w .i64 (-x.hi.val/t)).val= -x.hi.val/t:=wi (by omega) (by omega)
  have v3:(Rng.w .i64 (0-(Rng.w .i64 (-x.hi.val/t)).val)).val= -(-x.hi.val/t):=by rw [v2,wi (by omega) (by omega)];omega
  rw [zbI (by rw [v1,v3];omega)]
theorem exp_form {n k:I64} (hn: -98784247808<=n.val/\n.val<=85899345920) (hk:k.val=(2*n.val+2977044472)/5954088944):
  (zd5 (zbT (expP (zF (zaT n) (zaI k))) ⟨1,rfl⟩) k).opt=some (zdc (zbT (expP (zF (zaT n) (zaI k))) ⟨1,rfl⟩) k):=by
 have h1:=expP_in (rest_in hn hk)
 obtain ⟨h2,h3,h4⟩:=widen_in h1
 unfold In02 at h1
 rw [h2]
 refine scaled_eq ?_ (by omega)
 simp only [h3,h4]
 omega
theorem exp_ok (n:I64):(t_impl_ExpAt n).opt=some (F_spec_ExpAt n):=by
 simp only [t_impl_ExpAt,Tr.opt,F_spec_ExpAt,t_spec_ExpAt,Tr.get,okfix_eq,zaS]
 cases h0:zD n
 ·simp only [Bool.not_false,ctr]
 by_cases h1:n.val>85899345920
 ·simp only [Bool.not_true,cfl,h1,decide_true,ctr]
 by_cases h2:n.val < -98784247808
 ·simp only [Bool.not_true,cfl,h1,h2,decide_true,decide_false,ctr]
 have e1:(Rng.w .i64 (2*n.val)).val=2*n.val:=wi (by omega) (by omega)
 have e2:(Rng.w .i64 (2*n.val+2977044472)).val=2*n.val+2977044472:=wi (by omega) (by omega)
 simp only [Bool.not_true,cfl,h1,h2,decide_false,e1,e2]
 generalize hN:2*n.val+2977044472=N
 have t1:=Int.tdiv_eq_ediv (a:=N) (b:=5954088944)
 have t2:=Int.tmod_eq_emod (a:=N) (b:=5954088944)
 generalize hq:N.tdiv 5954088944=q at *
 generalize hm:N.tmod 5954088944=r at *
 have hqr:N=5954088944*q+r:=by rw [<- hq,<- hm];exact (Int.mul_tdiv_add_tmod N 5954088944).symm
 have hr: -5954088944<r/\r<5954088944/\(0<=N->0<=r)/\(N<0->r<=0):=by
  rw [<- hm]
  refine ⟨?_,?_,?_,?_⟩
  ·have:=Int.lt_tmod_of_pos N (show (0:Int)<5954088944 by decide);omega
  ·have:=Int.tmod_lt_of_pos N (show (0:Int)<5954088944 by decide);omega
  ·exact fun h=>Int.tmod_nonneg _ h
  ·intro h
   have:=Int.neg_tmod (-N) 5954088944
   have h3:=Int.tmod_nonneg (a:= -N) 5954088944 (by omega)
   rw [Int.neg_neg] at this
   omega
 have hqb: -40<=q/\q<=40:=by omega
 have v1:(Rng.w .i64 q).val=q:=wi (by omega) (by omega)
 have v2:(Rng.w .i64 (q*2)).val=q*2:=wi (by omega) (by omega)
 have v3:(Rng.w .i64 (q*2*2977044472)).val=q*5954088944:=by rw [wi (by omega) (by omega)];omega
 have v4:(Rng.w .i64 r).val=r:=wi (by omega) (by omega)
 have v5:(Rng.w .i64 (q-1)).val=q-1:=wi (by omega) (by omega)
 have hat:zbc n=zaT n:=by rw [at_eq];exact (l08At_eq (n:=n) (by omega)).symm
 simp only [v1,v2,v3,v4,hat,sub_eq,add_eq,mulI_F,divI_F,zbH,log2_eq,widen_eq,one_eq]
 by_cases hlt:r<0
 ·have d1:decide (q*5954088944>N)=true:=by simp;omega
  have d2:decide (r<0)=true:=by simpa using hlt
  have ex:=exp_form (n:=n) (k:= .w .i64 (q-1)) (by omega) (by rw [v5];omega)
  simp only [d1,d2,ctr]
  simp only [expP,expS,one_eq] at ex
  have hG:G_impl_scaled _ _=true:=show (zd5 _ _).opt.isSome=true by rw [ex];rfl
  have hF:F_impl_scaled _ _=_:=Tr.zae ex
  rw [hG,hF]
  rfl
 ·have d1:decide (q*5954088944>N)=false:=by simp;omega
  have d2:decide (r<0)=false:=by simpa using hlt
  have ex:=exp_form (n:=n) (k:= .w .i64 q) (by omega) (by rw [v1];omega)
  simp only [d1,d2,cfl]
  simp only [expP,expS,one_eq] at ex
  have hG:G_impl_scaled _ _=true:=show (zd5 _ _).opt.isSome=true by rw [ex];rfl
  have hF:F_impl_scaled _ _=_:=Tr.zae ex
  rw [hG,hF]
  rfl
theorem tt_exp_impl (n:I64):(t_impl_ExpAt n).opt=some (F_impl_ExpAt n):=zc6 (exp_ok n)
theorem expAt_eq (n:I64):F_impl_ExpAt n=F_spec_ExpAt n:=Tr.zae (exp_ok n)
end Go.Proofs.YtkenfaengphiiaaGreat.Ev
namespace Go.Proofs.YtkenfaengphiiaaGreat.Ev
open Go Go.RowKit
set_option maxRecDepth 100000
variable [Amb]
noncomputable def TbN:Tb Tryz.prog:= {T:= [Y2,Y30],mix:=mix,Es:= [E_impl_areAngles,zaa,E_impl_SinAt,E_impl_CosAt,zb9,E_impl_HullI],N:=1}
noncomputable def BN:Bod Tryz.prog:=⟨160,Tryz.f160,Tryz.f160.body.getD .skip,Tryz.func160,by kernel_rfl,by kernel_rfl,zK.no _ _⟩
noncomputable def N0:Code:=sL BN.code
noncomputable def N1:Code:=sL (sR BN.code)
noncomputable def N3:Code:=sL (sL (sR (sR BN.code)))
noncomputable def NL:Code:=unl (unb (sR (sL (sR (sR BN.code)))))
noncomputable def N9:Code:=sR (sR (sR BN.code))
theorem BN_eq:BN.code=N0.seq (N1.seq ((N3.seq (.block 0 (.loop NL))).seq N9)):=by kernel_rfl
noncomputable def N4:Code:=sL NL
noncomputable def N5:Code:=sL (unb (sL (sR (sR NL))))
noncomputable def N6:Code:=sR (unb (sL (sR (sR NL))))
noncomputable def N8:Code:=sR (sR (sR NL))
theorem NL_eq:NL=N4.seq ((Code.cond (.tmp 13) .skip (.exit 0)).seq ((Code.block 1 (N5.seq N6)).seq N8)):=by kernel_rfl
noncomputable def nA (i:Nat):Oper:=(opsL N3).getD i default
theorem N3_eq:N3= .region 3 [nA 0,nA 1,nA 2,nA 3].toArray false:=by kernel_rfl
noncomputable def nB (i:Nat):Oper:=(opsL N5).getD i default
theorem N5_eq:N5= .region 5 [nB 0,nB 1,nB 2].toArray false:=by kernel_rfl
theorem nA_0:(nA 0).guard=none/\(nA 0).dst=some 9:=⟨by kernel_rfl,by kernel_rfl⟩
theorem nA_1:(nA 1).guard=none/\(nA 1).op= .call {callee:= .value (.func 263),args:=#[.tmp 9],argTypes:=#[30]}/\(nA 1).dst=some 10:=⟨by kernel_rfl,by kernel_rfl,by kernel_rfl⟩
theorem nA_2:(nA 2).guard=none/\(nA 2).op= .call {callee:= .builtin .len,args:=#[.tmp 10],argTypes:=#[119]}/\(nA 2).dst=some 11:=⟨by kernel_rfl,by kernel_rfl,by kernel_rfl⟩
theorem nA_3:(nA 3).guard=none/\(nA 3).op= .move (.const (.int .i64 0))/\(nA 3).dst=some 12:=⟨by kernel_rfl,by kernel_rfl,by kernel_rfl⟩
theorem nB_0:(nB 0).guard=none/\(nB 0).op= .indexAddr 119 (.tmp 10) (.tmp 12)/\(nB 0).dst=some 14:=⟨by kernel_rfl,by kernel_rfl,by kernel_rfl⟩
theorem nB_1:(nB 1).guard=none/\(nB 1).op= .load 2 (.tmp 14)/\(nB 1).dst=some 15:=⟨by kernel_rfl,by kernel_rfl,by kernel_rfl⟩
theorem nB_2:(nB 2).guard=none/\(nB 2).op= .assign (.tmp 15)/\(nB 2).dst=some 4:=⟨by kernel_rfl,by kernel_rfl,by kernel_rfl⟩
noncomputable def endN (x:Iv):Iv:=zay (zY (F_impl_SinAt x.lo) (F_impl_CosAt x.lo)) (zY (F_impl_SinAt x.hi) (F_impl_CosAt x.hi))
noncomputable def odd1 (k:I64):Bool:=(Rng.w .i64 (zbJ .and .i64 k.val 1)).val==1
def s1N (x z:Iv):St:=⟨[(1,.ptr 0 0),(2,.ptr 1 0)],36,⟨[(0,cellsI x),(1,cellsI z)],2,0⟩⟩
theorem n_0 (x:Iv):Piece TbN N0 [1,2] [0,1] ⟨zipF 0 [enc x],36,⟨[],0,0⟩⟩=some (.norm,s1N x zI):=by kernel_rfl
theorem n_1 (x:Iv):Piece TbN N1 [1,2] [0,1] (s1N x zI)=bif !(zbU x) then some (.ret,s1N x zq) else some (.norm,s1N x zI):=by kernel_rfl
theorem n_3 (x:Iv):opk (A:=V×Mem) TbN.T (callk TbN.T (fun _=>TbN.drw) TbN.Es TbN.Bs TbN.N TbN.d) (s1N x zI) (nA 0) (fun v m=>some (v,m))=some (enc x,(s1N x zI).mm):=by kernel_rfl
inductive FrN:List Nat->List (Nat×List V)->V->Prop
 | nil:FrN [1,0] [] .nils
 | slc (n c:Nat) (cs:List V):FrN [1,0,2] [(2,cs)] (.slc 2 0 n c)
def sN (x:Iv) (z:Iv) (n i:I64) (tl:List (Nat×List V)) (LV:V) (ex:List (Nat×V)):St:=⟨ex ++ [(1,.ptr 0 0),(2,.ptr 1 0),(10,LV),(11,.i64 n),(12,.i64 i)],36,⟨(1,cellsI z)::(0,cellsI x)::tl,3,0⟩⟩
theorem n_4 {x z:Iv} {n i:I64} {bl:List Nat} {tl:List (Nat×List V)} {LV:V} (h:FrN bl tl LV):
  Piece TbN N4 [13,1,2,10,11,12] bl (sN x z n i tl LV [])=some (.norm,sN x z n i tl LV [(13,.bool (decide (i.val<n.val)))]):=by cases h<;>kernel_rfl
theorem n_6 {x:Iv} {n i k:I64} {bl:List Nat} {tl:List (Nat×List V)} {LV:V} (h:FrN bl tl LV):
  Piece TbN N6 [1,2,10,11,12] bl (sN x zI n i tl LV [(4,.i64 k)])=bif odd1 k then some (.ret,sN x zq n i tl LV []) else some (.norm,sN x zI n i tl LV []):=by cases h<;>kernel_rfl
theorem n_8 {x:Iv} {n i:I64} {bl:List Nat} {tl:List (Nat×List V)} {LV:V} (h:FrN bl tl LV):
  Piece TbN N8 [1,2,10,11,12] bl (sN x zI n i tl LV [])=some (.norm,sN x zI n (.w .i64 (i.val+1)) tl LV []):=by cases h<;>kernel_rfl
theorem n_9 {x:Iv} {n i:I64} {bl:List Nat} {tl:List (Nat×List V)} {LV:V} (h:FrN bl tl LV):
  Piece TbN N9 [2] [1] (sN x zI n i tl LV [])=some (.ret,⟨[(2,.ptr 1 0)],36,⟨[(1,cellsI (endN x))],3,0⟩⟩):=by cases h<;>kernel_rfl
structure NInv (x:Iv) (wc:World) (L:List I64) (v:Value) (n i:I64) (ex:List (Nat×V)) (bl:List Nat) (tl:List (Nat×List V)) (LV:V) (ρ:Nat->Option Nat) (a:Act) (w:World):Prop where
 rel:Rel wc ρ (sN x zI n i tl LV ex) a w
 fr:FrN bl tl LV
 hv:a.tmps[10]?=some v
 ls:(v= .slice none 0 0/\L= []/\tl= [])\/∃g cap m,v= .slice (some ⟨g,0,none⟩) L.length cap/\ρ 2=some g/\tl= [(2,(L++m).map V.i64)]
section
variable {x:Iv} {wc:World} {L:List I64} {v:Value} {n i:I64} {ex:List (Nat×V)} {bl:List Nat} {tl:List (Nat×List V)} {LV:V} {ρ:Nat->Option Nat} {a:Act} {w:World}
theorem NInv.go (h:NInv x wc L v n i ex bl tl LV ρ a w) (hLV:(v= .slice none 0 0/\LV= .nils)\/∃g cap,v= .slice (some ⟨g,0,none⟩) L.length cap/\LV= .slc 2 0 L.length cap/\ρ 2=some g) {ρ':Nat->Option Nat} (e:Ext ρ ρ') {i':I64} {ex':List (Nat×V)} {a':Act} {w':World}
  (hr:Rel wc ρ' (sN x zI n i' tl LV ex') a' w') (hlk:lk (sN x zI n i' tl LV ex').tm 10=some LV):NInv x wc L v n i' ex' bl tl LV ρ' a' w':=by
 obtain ⟨y,y1,y2⟩:=hr.tm 10 _ hlk
 refine ⟨hr,h.fr,?_,?_⟩
 ·rcases hLV with ⟨rfl,rfl⟩|⟨g,cap,rfl,rfl,hg⟩
  ·cases y2;exact y1
  ·cases y2
   rename_i r hr'
   rw [e 2 g hg] at hr';cases hr';exact y1
 ·rcases h.ls with h1|⟨g,cap,m,h1,h2,h3⟩
  ·exact .inl h1
  ·exact .inr ⟨g,cap,m,h1,e 2 g h2,h3⟩
end
theorem tan_rounds {x:Iv} {wc:World} {L:List I64} {v:Value} {n:I64} {bl:List Nat} {tl:List (Nat×List V)} {LV:V} (hn:n.val=L.length) (hL:L.length<=4000):
  ∀(m:Nat) (i:I64) (ρ:Nat->Option Nat) (a:Act) (w:World) (Q:Exit->Act->World->Prop),NInv x wc L v n i [] bl tl LV ρ a w->
  ((v= .slice none 0 0/\LV= .nils)\/∃g cap,v= .slice (some ⟨g,0,none⟩) L.length cap/\LV= .slc 2 0 L.length cap/\ρ 2=some g)->
  0<=i.val->i.val+m=L.length+1->1<=m->((L.drop i.val.toNat).any odd1=false->∀i' ρ' a' w',NInv x wc L v n i' [] bl tl LV ρ' a' w'->Q (.exit 0) a' w')->
  ((L.drop i.val.toNat).any odd1=true->∀i' ρ' a' w',Rel wc ρ' (sN x zq n i' tl LV []) a' w'->Q .ret a' w')->Code.rounds Tryz.prog NL Q m a w:=by
 intro m
 induction m with
 | zero=>intro i ρ a w Q _ _ _ _ h;omega
 | succ m ih=>
  intro i ρ a w Q h hLV hi hm _ hq hq'
  rw [rounds_succ,NL_eq]
  refine wp_seq (piece (n_4 h.fr) h.rel fun ρ1 a1 w1 e1 r1'=>?_)
  have hLV1:(v= .slice none 0 0/\LV= .nils)\/∃g cap,v= .slice (some ⟨g,0,none⟩) L.length cap/\LV= .slc 2 0 L.length cap/\ρ1 2=some g:=by
   rcases hLV with h|⟨g,cap,h1,h2,h3⟩
   ·exact .inl h
   ·exact .inr ⟨g,cap,h1,h2,e1 2 g h3⟩
  have i1:=h.go hLV e1 (ex':= [(13,.bool (decide (i.val<n.val)))]) r1' rfl
  obtain ⟨y,y1,y2⟩:=r1'.tm 13 _ rfl
  cases y2
  refine wp_seq (wp_cond (zdB y1) ?_)
  by_cases hlt:i.val<n.val
  ·rw [show decide (i.val<n.val)=true by simpa using hlt,if_pos rfl]
   refine wp_skip ?_
   show ((Code.block 1 (N5.seq N6)).seq N8).wp _ _ _ _
   refine wp_seq (wp_block (wp_seq ?_))
   rcases i1.ls with ⟨rfl,rfl,_⟩|⟨g,cap,mm,rfl,hg,htl⟩
   ·simp at hn;omega
   have hil:i.val.toNat<L.length:=by omega
   obtain ⟨kk,hkk⟩:∃kk,L[i.val.toNat]?=some kk:=⟨L[i.val.toNat],by simp [hil]⟩
   obtain ⟨g',ys,ty,hg',hrow,hys⟩:=r1'.mr.blk 2 ((L++mm).map V.i64) (by rw [htl];rfl)
   rw [hg] at hg';cases hg'
   have hyse:=vrs_i64 hys
   subst hyse
   obtain ⟨y24,z1,z2⟩:=r1'.tm 12 _ rfl
   cases z2
   have hsz:a1.tmps.size=36:=r1'.sz
   rw [N5_eq]
   refine wp_region_lit ?_
   obtain ⟨ti,tz,hti,_,hts,_,_⟩:=ty_i64
   have hcs:Tryz.prog.cellsOf 2=1:=by simp [Program.cellsOf,hti,hts]
   refine Go.Great.wpList_runTo nB_0.1 (some 14) nB_0.2.2 (.pointer (some ⟨g,0+i.val.toNat*1,none⟩)) w1 ?_ ?_
   ·have hsr:=run_cells (P:=Tryz.prog) (t:=2) hcs (by decide) w1
    have hrun:(Instr.indexAt 119 (.slice (some ⟨g,0,none⟩) L.length cap) (.int .i64 i.val)).run Tryz.prog w1= .ok (.pointer (some ⟨g,0+i.val.toNat*1,none⟩)) w1:=by
     simp [Instr.indexAt,asIntOf,run_underlying ty_list,hi,show i.val<(L.length:Int) by omega,hsr,addr_add]
    simp only [execOp,nB_0.2.1,zdB i1.hv,zdB z1,Sem.run_bind,hrun,Result.andThen_ok,Sem.run_pure]
   have f1:(a1.put (some 14) (.pointer (some ⟨g,0+i.val.toNat*1,none⟩))).tmps[14]?=some (.pointer (some ⟨g,0+i.val.toNat*1,none⟩)):=by rw [zaY (by omega),if_pos rfl]
   have g1:(a1.put (some 14) (.pointer (some ⟨g,0+i.val.toNat*1,none⟩))).tmps.size=36:=by rw [ze4,hsz]
   have hcell:w1.cell? ⟨g,0+i.val.toNat*1,none⟩=some (iv64 kk):=by
    rw [cell_of_row w1 g _ _ ty _ hrow]
    simp only [Nat.zero_add,Nat.mul_one,List.getElem?_toArray,List.getElem?_map]
    rw [List.getElem?_append_left hil,hkk];rfl
   refine Go.Great.wpList_runTo nB_1.1 (some 15) nB_1.2.2 (iv64 kk) w1 ?_ ?_
   ·have hagg:=Y2.run_agg (b:=false) (by kernel_rfl) w1
    have hag:(isAgg 2).run Tryz.prog w1= .ok false w1:=hagg
    simp only [execOp,nB_1.2.1,zdB f1,Instr.loadAt,Instr.sureAddr,loadVar,hag,Sem.run_bind,Sem.run_pure,Result.andThen_ok,Bool.false_eq_true,if_false,run_load,hcell]
   generalize hA2:a1.put (some 14) (.pointer (some ⟨g,0+i.val.toNat*1,none⟩))=a2 at *
   have f2:(a2.put (some 15) (iv64 kk)).tmps[15]?=some (iv64 kk):=by rw [zaY (by omega),if_pos rfl]
   have g2:(a2.put (some 15) (iv64 kk)).tmps.size=36:=by rw [ze4,g1]
   refine Go.Great.wpList_runTo nB_2.1 (some 4) nB_2.2.2 (iv64 kk) w1 (by simp only [execOp,nB_2.2.1,Sem.run_pure,zdB f2]) ?_
   refine wpList_nil ?_
   show N6.wp _ _ _ _
   have r2:Rel wc ρ1 (sN x zI n i tl LV [(4,.i64 kk)]) ((a2.put (some 15) (iv64 kk)).put (some 4) (iv64 kk)) w1:=by
    refine ⟨fun t' u hu=>?_,by rw [ze4,g2];rfl,?_,r1'.mr⟩
    ·simp only [sN,List.cons_append,List.nil_append,zbj] at hu
     by_cases h7:4=t'
     ·subst h7
      simp at hu;subst hu
      exact ⟨iv64 kk,by rw [zaY (by omega),if_pos rfl],.i64 _⟩
     ·rw [if_neg h7] at hu
      have hu':lk (sN x zI n i tl LV [(13,.bool (decide (i.val<n.val)))]).tm t'=some u/\t'≠14/\t'≠15:=by
       simp only [sN,List.cons_append,List.nil_append,zbj]
       by_cases h25:13=t'
       ·subst h25;simp [lk] at hu
       ·rw [if_neg h25]
        refine ⟨hu,?_,?_⟩
        ·rintro rfl;simp [lk] at hu
        ·rintro rfl;simp [lk] at hu
      obtain ⟨y,y1,y2⟩:=r1'.tm t' u hu'.1
      refine ⟨y,?_,y2⟩
      rw [zaY (by omega),if_neg (fun e=>h7 e.symm),zaY (by omega),if_neg hu'.2.2,<- hA2,zaY (by omega),if_neg hu'.2.1]
      exact y1
    ·rw [put_df,put_df,<- hA2,put_df];exact r1'.df
   have i2:NInv x wc L (.slice (some ⟨g,0,none⟩) L.length cap) n i [(4,.i64 kk)] bl tl LV ρ1 ((a2.put (some 15) (iv64 kk)).put (some 4) (iv64 kk)) w1:=by
    refine ⟨r2,i1.fr,?_,i1.ls⟩
    rw [zaY (by omega),if_neg (by decide),zaY (by omega),if_neg (by decide),<- hA2,zaY (by omega),if_neg (by decide)]
    exact i1.hv
   have hdrop:L.drop i.val.toNat=kk::L.drop (i.val.toNat+1):=by
    have hkk':L[i.val.toNat]=kk:=by rw [List.getElem?_eq_getElem hil] at hkk;simpa using hkk
    rw [List.drop_eq_getElem_cons hil,hkk']
   have ev:(Rng.w .i64 (i.val+1)).val=i.val+1:=wi (by omega) (by omega)
   rw [hdrop,List.any_cons] at hq hq'
   have q6:=n_6 (x:=x) (n:=n) (i:=i) (k:=kk) i2.fr
   cases hc1:odd1 kk
   ·rw [hc1,cond_false] at q6
    refine piece q6 i2.rel fun ρ3 a3 w3 e3 r3=>?_
    have i3:=i2.go hLV1 e3 (ex':= []) r3 rfl
    have hLV3:(Value.slice (some ⟨g,0,none⟩) L.length cap= .slice none 0 0/\LV= .nils)\/∃g' cap',Value.slice (some ⟨g,0,none⟩) L.length cap= .slice (some ⟨g',0,none⟩) L.length cap'/\LV= .slc 2 0 L.length cap'/\ρ3 2=some g':=by
     rcases hLV1 with h|⟨g',cap',h1,h2,h3⟩
     ·exact .inl h
     ·exact .inr ⟨g',cap',h1,h2,e3 2 g' h3⟩
    refine piece (n_8 i3.fr) i3.rel fun ρ4 a4 w4 e4 r4=>?_
    have i4:=i3.go hLV3 e4 (ex':= []) r4 rfl
    rw [hc1,Bool.false_or] at hq hq'
    refine ih (.w .i64 (i.val+1)) ρ4 a4 w4 Q i4 ?_ (by rw [ev];omega) (by rw [ev];omega) (by omega) ?_ ?_
    ·rcases hLV3 with h|⟨g',cap',h1,h2,h3⟩
     ·exact .inl h
     ·exact .inr ⟨g',cap',h1,h2,e4 2 g' h3⟩
    ·rw [ev,show (i.val+1).toNat=i.val.toNat+1 by omega];exact hq
    ·rw [ev,show (i.val+1).toNat=i.val.toNat+1 by omega];exact hq'
   ·rw [hc1,cond_true] at q6
    refine piece q6 i2.rel fun ρ3 a3 w3 e3 r3=>?_
    rw [hc1,Bool.true_or] at hq'
    exact hq' rfl i ρ3 a3 w3 r3
  ·rw [show decide (i.val<n.val)=false by simpa using hlt,if_neg (by decide)]
   refine wp_exit ?_
   have hd:L.drop i.val.toNat= []:=List.drop_eq_nil_of_le (by omega)
   rw [hd] at hq
   refine hq rfl i ρ1 a1 w1 ⟨?_,i1.fr,i1.hv,i1.ls⟩
   exact ⟨fun t' u hu=>r1'.tm t' u (by
    simp only [sN,List.cons_append,List.nil_append,zbj] at hu ⊢
    by_cases h25:13=t'
    ·subst h25;simp [lk] at hu
    ·rw [if_neg h25];exact hu),r1'.sz,r1'.df,r1'.mr⟩
noncomputable def zcH (x:Iv):Iv:=bif !(zbU x) then zq else bif (keepF x 1000 (k0 x)).any odd1 then zq else endN x
theorem tan_does (x:Iv) {ρ:Nat->Option Nat} {xs:List Value} {w:World} (hv:VRs ρ [enc x] xs) (ha:Am w):
  Does Tryz.prog 160 xs.toArray w fun v w'=>(∀ρ,VR ρ (enc (zcH x)) v)/\Below w.heap.size w w':=by
 refine does_of_wp BN (vs:= [enc x]) (show 1<=BN.fn.ntmps from Nat.le_of_ble_eq_true (by kernel_rfl)) hv rfl ha fun a hR=>?_
 have hres:∀(o:Iv) (tm:List (Nat×V)) (bs:List (Nat×List V)) (n:Nat),resv (P:=Tryz.prog) TbN.T ⟨(2,.ptr 1 0)::tm,36,⟨(1,cellsI o)::bs,n,0⟩⟩ BN.fn.results.toList=some [enc o]:=by
  intro o tm bs n;kernel_rfl
 have fin:∀(o:Iv) (tm:List (Nat×V)) (bs:List (Nat×List V)) (n:Nat) (ρ':Nat->Option Nat) (a':Act) (w':World),o=zcH x->Rel w ρ' ⟨(2,.ptr 1 0)::tm,36,⟨(1,cellsI o)::bs,n,0⟩⟩ a' w'->
   bodyPost Tryz.prog BN.fn (fun e w'=>∃v,e= .returned v/\(∀ρ,VR ρ (enc (zcH x)) v)/\Below w.heap.size w w') .ret a' w':=by
  intro o tm bs n ρ' a' w' ho hr
  obtain ⟨z,z1,z2⟩:=results_run (P:=Tryz.prog) hr (hres o tm bs n)
  subst ho
  exact ⟨hr.df,z,z1,z,rfl,fun ρ2=>z2.pf rfl,hr.mr.bel⟩
 have fin1:∀(o:Iv) (ρ':Nat->Option Nat) (a':Act) (w':World) (tm:List (Nat×V)) (bs:List (Nat×List V)) (n:Nat),lk tm 2=some (.ptr 1 0)->lk bs 1=some (cellsI o)->o=zcH x->Rel w ρ' ⟨tm,36,⟨bs,n,0⟩⟩ a' w'->
   bodyPost Tryz.prog BN.fn (fun e w'=>∃v,e= .returned v/\(∀ρ,VR ρ (enc (zcH x)) v)/\Below w.heap.size w w') .ret a' w':=by
  intro o ρ' a' w' tm bs n h2 h1 ho hr
  refine fin o [] [] n ρ' a' w' ho ⟨fun t' u hu=>hr.tm t' u ?_,hr.sz,hr.df,⟨fun b cs hb=>hr.mr.blk b cs ?_,hr.mr.inj,hr.mr.fresh,hr.mr.dom,hr.mr.own,hr.mr.bel,hr.mr.lon,hr.mr.am⟩⟩
  ·simp only [zbj] at hu
   by_cases h4:2=t'
   ·subst h4;simp at hu;subst hu;exact h2
   ·rw [if_neg h4] at hu;simp [lk] at hu
  ·simp only [zbj] at hb
   by_cases h4:1=b
   ·subst h4;simp at hb;subst hb;exact h1
   ·rw [if_neg h4] at hb;simp [lk] at hb
 rw [BN_eq]
 refine wp_seq (piece (n_0 x) hR fun ρ1 a1 w1 e1 r1=>?_)
 have q1:=n_1 x
 cases hang:zbU x
 ·rw [hang,Bool.not_false,cond_true] at q1
  refine wp_seq (piece q1 r1 fun ρ2 a2 w2 e2 r2=>?_)
  exact fin1 zq ρ2 a2 w2 _ _ _ rfl rfl (by simp only [zcH,hang,Bool.not_false,cond_true]) r2
 rw [hang,Bool.not_true,cond_false] at q1
 refine wp_seq (piece q1 r1 fun ρ3 a3 w3 e3 r3=>?_)
 show ((N3.seq (.block 0 (.loop NL))).seq N9).wp _ _ _ _
 refine wp_seq (wp_seq ?_)
 rw [N3_eq]
 refine wp_region_lit ?_
 refine op_step (n_3 x) nA_0.1 (by rw [nA_0.2];rfl) r3 fun ρ4 a4 w4 e4 r4=>?_
 rw [nA_0.2] at r4
 obtain ⟨y21,p1,p2⟩:=r4.tm 9 (enc x) rfl
 have hb1:=r4.mr.bel
 refine wpList_plain nA_1.1 fun K hK=>?_
 have ecall:(execOp a4.eval (nA 1)).run Tryz.prog w4=(callFunc 263 [y21].toArray).run Tryz.prog w4:=by
  simp only [execOp,nA_1.2.1,resolve,List.map_toArray,List.map_cons,List.map_nil,zdB p1]
  rfl
 unfold Oper.wp
 rw [ecall]
 refine turns_does x (.cons p2 .nil) r4.mr.amb (nA 1) a4 K _ fun v w5 hvw=>hK _ _ ?_
 obtain ⟨hown,hbel⟩:=hvw
 rw [nA_1.2.2]
 have hsz:a4.tmps.size=36:=r4.sz
 have s1:(a4.put (some 10) v).tmps.size=36:=by rw [ze4,hsz]
 have f22:(a4.put (some 10) v).tmps[10]?=some v:=by rw [zaY (by omega),if_pos rfl]
 have hlen:=keepF_len x 1000 (k0 x)
 generalize hL:keepF x 1000 (k0 x)=L at *
 obtain ⟨av,cv,hve⟩:=own_len hown
 refine Go.Great.wpList_runTo nA_2.1 (some 11) nA_2.2.2 (.int .i64 (L.length:Int)) w5 ?_ ?_
 ·have hrun:(Builtin.len_ #[119] (nA 2).type #[v]).run Tryz.prog w5= .ok (.int .i64 (L.length:Int)) w5:=by
   have h1:(#[119]:Array TypeId)[0]?=some 119:=rfl
   have h2:(#[v]:Array Value)[0]?=some (.slice av L.length cv):=by rw [hve];rfl
   simp only [Builtin.len_,h1,h2,Sem.run_bind,run_underlying ty_list,Result.andThen_ok,Sem.run_pure,goInt]
  simp only [execOp,nA_2.2.1,resolve,invoke,builtin,pure_bind,List.map_toArray,List.map_cons,List.map_nil,zdB f22,Sem.run_bind,Sem.run_pure,hrun,Result.andThen_ok]
 have s2:((a4.put (some 10) v).put (some 11) (.int .i64 (L.length:Int))).tmps.size=36:=by rw [ze4,s1]
 refine Go.Great.wpList_runTo nA_3.1 (some 12) nA_3.2.2 (.int .i64 0) w5 (by simp only [execOp,nA_3.2.1,Act.eval,Sem.run_pure]) ?_
 have s3:(((a4.put (some 10) v).put (some 11) (.int .i64 (L.length:Int))).put (some 12) (.int .i64 0)).tmps.size=36:=by rw [ze4,s2]
 have g22:(((a4.put (some 10) v).put (some 11) (.int .i64 (L.length:Int))).put (some 12) (.int .i64 0)).tmps[10]?=some v:=by rw [zaY (by omega),if_neg (by decide),zaY (by omega),if_neg (by decide),zaY (by omega),if_pos rfl]
 have g23:(((a4.put (some 10) v).put (some 11) (.int .i64 (L.length:Int))).put (some 12) (.int .i64 0)).tmps[11]?=some (.int .i64 (L.length:Int)):=by rw [zaY (by omega),if_neg (by decide),zaY (by omega),if_pos rfl]
 have g24:(((a4.put (some 10) v).put (some 11) (.int .i64 (L.length:Int))).put (some 12) (.int .i64 0)).tmps[12]?=some (.int .i64 0):=by rw [zaY (by omega),if_pos rfl]
 have gold:∀t',t'≠10->t'≠11->t'≠12->(((a4.put (some 10) v).put (some 11) (.int .i64 (L.length:Int))).put (some 12) (.int .i64 0)).tmps[t']?=a4.tmps[t']?:=fun t' h1 h2 h3=>by
  rw [zaY (by omega),if_neg h3,zaY (by omega),if_neg h2,zaY (by omega),if_neg h1]
 have gdf:(((a4.put (some 10) v).put (some 11) (.int .i64 (L.length:Int))).put (some 12) (.int .i64 0)).defers= []:=by rw [put_df,put_df,put_df];exact r4.df
 generalize ((a4.put (some 10) v).put (some 11) (.int .i64 (L.length:Int))).put (some 12) (.int .i64 0)=a6 at *
 refine wpList_nil ?_
 show (Code.block 0 (.loop NL)).wp _ _ _ _
 have hnv:(Rng.w .i64 (L.length:Int)).val=L.length:=wi (by omega) (by omega)
 have mk:∀(ρ5:Nat->Option Nat) (tl:List (Nat×List V)) (LV:V),Ext ρ4 ρ5->VR ρ5 LV v->(∀b r,ρ5 b=some r->ρ4 b=some r\/(b=2/\w4.heap.size<=r/\r<w5.heap.size))->
   (∀b cs,lk tl b=some cs->∃r xs t,ρ5 b=some r/\w5.heap[r]?=some (.cells xs.toArray t (0,0))/\VRs ρ5 cs xs)->Rel w ρ5 (sN x zI (.w .i64 (L.length:Int)) ⟨0,rfl⟩ tl LV []) a6 w5:=by
  intro ρ5 tl LV he hLV hnew htl
  have old:∀b r,ρ4 b=some r->r<w4.heap.size:=r4.mr.dom
  refine ⟨fun t' u hu=>?_,s3,gdf,⟨fun b cs hb=>?_,fun b b' r h1 h2=>?_,fun b hb=>?_,fun b r hr=>?_,fun b r _ hr=>?_,hb1.trans (hbel.mono hb1.size),Nat.zero_le _,r4.mr.am⟩⟩
  ·simp only [sN,List.nil_append,zbj] at hu
   by_cases h1:1=t'
   ·subst h1;simp at hu;subst hu
    obtain ⟨y,y1,y2⟩:=r4.tm 1 (.ptr 0 0) rfl
    exact ⟨y,by rw [gold 1 (by decide) (by decide) (by decide)];exact y1,y2.mono he⟩
   rw [if_neg h1] at hu
   by_cases h4:2=t'
   ·subst h4;simp at hu;subst hu
    obtain ⟨y,y1,y2⟩:=r4.tm 2 (.ptr 1 0) rfl
    exact ⟨y,by rw [gold 2 (by decide) (by decide) (by decide)];exact y1,y2.mono he⟩
   rw [if_neg h4] at hu
   by_cases h22:10=t'
   ·subst h22;simp at hu;subst hu;exact ⟨v,g22,hLV⟩
   rw [if_neg h22] at hu
   by_cases h23:11=t'
   ·subst h23;simp at hu;subst hu
    refine ⟨_,g23,?_⟩
    have:=VR.i64 (ρ:=ρ5) (Rng.w .i64 (L.length:Int))
    rw [hnv] at this;exact this
   rw [if_neg h23] at hu
   by_cases h24:12=t'
   ·subst h24;simp at hu;subst hu;exact ⟨_,g24,.i64 _⟩
   rw [if_neg h24] at hu;simp [lk] at hu
  ·have keep:∀b cs,lk (s1N x zI).mm.blks b=some cs->∃r xs t,ρ5 b=some r/\w5.heap[r]?=some (.cells xs.toArray t (0,0))/\VRs ρ5 cs xs:=fun b cs hb=>by
    obtain ⟨r,xs,t',h1,h2,h3⟩:=r4.mr.blk b cs hb
    exact ⟨r,xs,t',he _ _ h1,by rw [hbel.block r (old b r h1)];exact h2,h3.mono he⟩
   simp only [sN,zbj] at hb
   by_cases h2:1=b
   ·subst h2;simp at hb;subst hb;exact keep 1 _ rfl
   rw [if_neg h2] at hb
   by_cases h1:0=b
   ·subst h1;simp at hb;subst hb;exact keep 0 _ rfl
   rw [if_neg h1] at hb
   exact htl b cs hb
  ·rcases hnew b r h1 with h1|h1<;>rcases hnew b' r h2 with h2|h2
   ·exact r4.mr.inj b b' r h1 h2
   ·have:=old b r h1;omega
   ·have:=old b' r h2;omega
   ·omega
  ·have hb3:3<=b:=hb
   cases hr:ρ5 b with
   | none=>rfl
   | some r=>
    rcases hnew b r hr with h1|h1
    ·have:=r4.mr.fresh b (show 2<=b by omega)
     rw [this] at h1;cases h1
    ·omega
  ·rcases hnew b r hr with h1|h1
   ·have h2:=old b r h1;have h3:=hbel.size;omega
   ·exact h1.2.2
  ·rcases hnew b r hr with h1|h1
   ·exact r4.mr.own b r (Nat.zero_le _) h1
   ·have h2:=hb1.size;omega
 have run:∀(ρ5:Nat->Option Nat) (bl:List Nat) (tl:List (Nat×List V)) (LV:V),NInv x w L v (.w .i64 (L.length:Int)) ⟨0,rfl⟩ [] bl tl LV ρ5 a6 w5->
   ((v= .slice none 0 0/\LV= .nils)\/∃g cap,v= .slice (some ⟨g,0,none⟩) L.length cap/\LV= .slc 2 0 L.length cap/\ρ5 2=some g)->
   (Code.block 0 (.loop NL)).wp Tryz.prog (Exit.then (N9.wp Tryz.prog (bodyPost Tryz.prog BN.fn (fun e w'=>∃v,e= .returned v/\(∀ρ,VR ρ (enc (zcH x)) v)/\Below w.heap.size w w'))) (bodyPost Tryz.prog BN.fn (fun e w'=>∃v,e= .returned v/\(∀ρ,VR ρ (enc (zcH x)) v)/\Below w.heap.size w w'))) a6 w5:=by
  intro ρ5 bl tl LV hi hLV
  refine wp_block (wp_loop_rounds (L.length+1) (tan_rounds hnv (by omega) (L.length+1) ⟨0,rfl⟩ _ _ _ _ hi hLV (by decide) (by simp) (by omega) (fun hany i' ρ6 a7 w7 hh=>?_) (fun hany i' ρ6 a7 w7 hh=>?_)))
  ·show N9.wp _ _ _ _
   refine piece (n_9 hh.fr) hh.rel fun ρ7 a8 w8 e8 r8=>?_
   refine fin (endN x) [] [] 3 ρ7 a8 w8 ?_ r8
   have hany':L.any odd1=false:=hany
   simp only [zcH,hang,Bool.not_true,cond_false,hL,hany']
  ·have hany':L.any odd1=true:=hany
   exact fin1 zq ρ6 a7 w7 _ _ _ rfl rfl (by simp only [zcH,hang,Bool.not_true,cond_false,hL,hany',cond_true]) hh
 rcases hown with ⟨rfl,hLn⟩|⟨g,cap,m,rfl,h2,h3,h4⟩
 ·refine run ρ4 [1,0] [] .nils ⟨mk ρ4 [] .nils (Ext.refl _) .nils (fun b r h=> .inl h) (fun b cs h=>by simp [lk] at h),.nil,g22,.inl ⟨rfl,hLn,rfl⟩⟩ (.inl ⟨rfl,rfl⟩)
 ·have hgs:g<w5.heap.size:=(Array.getElem?_eq_some_iff.1 h3).1
  have hn3:ρ4 2=none:=r4.mr.fresh 2 (show 2<=2 by omega)
  have hE:Ext ρ4 (fun b=>if b=2 then some g else ρ4 b):=fun b r hr=>by
   by_cases hb:b=2
   ·subst hb;rw [hn3] at hr;cases hr
   ·simp [hb,hr]
  have h33:(fun b=>if b=2 then some g else ρ4 b:Nat->Option Nat) 2=some g:=by simp
  refine run _ [1,0,2] [(2,(L++m).map V.i64)] (.slc 2 0 L.length cap) ⟨mk _ _ _ hE (.slc h33) (fun b r hr=>?_) (fun b cs hb=>?_),.slc _ _ _,g22,.inr ⟨g,cap,m,rfl,h33,rfl⟩⟩ (.inr ⟨g,cap,rfl,rfl,h33⟩)
  ·split at hr
   ·cases hr;exact .inr ⟨by assumption,h2,hgs⟩
   ·exact .inl hr
  ·simp only [zbj] at hb
   by_cases h:2=b
   ·subst h;simp at hb;subst hb
    exact ⟨g,(L++m).map iv64,_,h33,h3,by simpa using vrs_mk (L++m)⟩
   ·rw [if_neg h] at hb;simp [lk] at hb
noncomputable def E_impl_TanI:Ent Tryz.prog where
 id:=160
 g:=fun _ _=>true
 fn:=fun vs _=>match vs with
  | [x]=>match (dec x:Option Iv) with
   | some x=>some (enc (zcH x))
   | _=>none
  | _=>none
 ok:=fun vs m v _ hf w0 ρ xs w hv hm=>by
  split at hf<;>try (cases hf;done)
  split at hf<;>try (cases hf;done)
  rename_i x hx
  cases hf
  have e1:=Enc.dec_enc _ _ hx
  subst e1
  exact (tan_does x hv hm.amb).mono fun v w' h=>⟨h.1 ρ,h.2⟩
end Go.Proofs.YtkenfaengphiiaaGreat.Ev
namespace Go.Proofs.YtkenfaengphiiaaGreat.Ev
open Go
theorem tan_loop (x:Iv) (p q:I64) (hk1:(k1 x).val<=4000):∀(n:Nat) (k:I64),1<=n->(k1 x).val-k.val+1<n-> -5000<=k.val->
  ∃k',(Lf2 b_spec_TanI_4 n ⟨k,x.lo,x.hi,p,q⟩).opt=some ⟨(keepF x n k).any odd1,⟨k',x.lo,x.hi,bif (keepF x n k).any odd1 then zaK.lo else p,bif (keepF x n k).any odd1 then zaK.hi else q⟩⟩:=by
 intro n
 induction n with
 | zero=>intro k h;omega
 | succ n ih=>
  intro k _ hn hlow
  have ek1:(Rng.w .i64 ((zau x.hi).val+1))=k1 x:=by unfold k1;rw [quarter_eq]
  by_cases hk:k.val<=(k1 x).val
  ·have ev:(Rng.w .i64 (k.val+1)).val=k.val+1:=wi (by omega) (by omega)
   have ihk:=ih (.w .i64 (k.val+1)) (by omega) (by rw [ev];omega) (by rw [ev];omega)
   have hd:decide (k.val<=(k1 x).val)=true:=by simpa using hk
   have hx:(⟨x.lo,x.hi⟩:Iv)=x:=rfl
   simp only [Lf2,b_spec_TanI_4,ek1,hd,cond_true,Tr.bind,Tr.opt,keepF,overlap_eq,turnI_eq,hx]
   cases hodd:(Rng.w .i64 (zbJ .and .i64 k.val 1)).val==1
   ·have ho:odd1 k=false:=hodd
    simp only [cond_false]
    cases hov:zb4 (zW k) x
    ·simp only [cond_false];exact ihk
    ·simp only [cond_true,List.any_cons,ho,Bool.false_or];exact ihk
   ·have ho:odd1 k=true:=hodd
    simp only [cond_true]
    cases hov:zb4 (zW k) x
    ·simp only [cond_false];exact ihk
    ·exact ⟨k,by simp only [cond_true,List.any_cons,ho,Bool.true_or]⟩
  ·have hd:decide (k.val<=(k1 x).val)=false:=by simpa using hk
   exact ⟨k,by simp only [Lf2,b_spec_TanI_4,ek1,hd,cond_false,Tr.bind,Tr.opt,keepF,List.any_nil]⟩
theorem tan_ok (x:Iv):(t_spec_TanI x).opt=some (zcH x):=by
 have hb:=k_bd x
 simp only [t_spec_TanI,Tr.opt,zcH,fits_eq]
 cases zbW x
 ·simp only [Bool.not_false,cond_true]
  rw [zaS,zc5]
 simp only [Bool.not_true,cond_false]
 have ek0:(Rng.w .i64 ((zau x.lo).val-1))=k0 x:=by unfold k0;rw [quarter_eq]
 rw [ek0]
 obtain ⟨k',h⟩:=tan_loop x ⟨0,rfl⟩ ⟨0,rfl⟩ (by omega) 1000 (k0 x) (by decide) (by omega) (by omega)
 have g:G_spec_TanI_4 ⟨k0 x,x.lo,x.hi,⟨0,rfl⟩,⟨0,rfl⟩⟩=true:=by unfold G_spec_TanI_4;rw [h];rfl
 have l:L_spec_TanI_4 ⟨k0 x,x.lo,x.hi,⟨0,rfl⟩,⟨0,rfl⟩⟩=_:=Tr.zae h
 rw [g,l]
 simp only [cond_true]
 cases (keepF x 1000 (k0 x)).any odd1
 ·simp only [cond_false,endN,hull_eq,divI_F,sinAt_eq,cosAt_eq]
 ·simp only [cond_true]
  rw [zaS,<- zc5]
theorem tanI_eq (x:Iv):zcH x=F_spec_TanI x:=(Tr.zae (tan_ok x)).symm
theorem tt_tan_spec (x:Iv):(t_spec_TanI x).opt=some (F_spec_TanI x):=zc6 (tan_ok x)
end Go.Proofs.YtkenfaengphiiaaGreat.Ev
namespace Go.Proofs.YtkenfaengphiiaaGreat.Ev
open Go Go.RowKit
set_option maxRecDepth 100000
section
variable [Amb]
noncomputable def ET_spec_AtanhI:Ent Tryz.prog:= .of1 Tb393 B393 (fun _=>true) F_spec_AtanhI fun a0 _=>(r_spec_AtanhI a0).trans (tt_atanh_spec a0)
noncomputable def ET_impl_AtanhI:Ent Tryz.prog:= .two1 Tb389 B389 (fun _=>true) F_impl_AtanhI 0 [1,2,3] 1 [0,2,3] (by unfold twoShape;kernel_rfl) (by kernel_rfl) (by kernel_rfl) (by kernel_rfl) (fun a0=>by kernel_rfl) (fun a0 _=>(r0_impl_AtanhI a0).trans (tt_atanh_impl a0)) (fun a0 _=>(r1_impl_AtanhI a0).trans (tt_atanh_impl a0))
noncomputable def ET_impl_ExpAt:Ent Tryz.prog:= .of1 Tb273 B273 (fun _=>true) F_impl_ExpAt fun a0 _=>(r_impl_ExpAt a0).trans (tt_exp_impl a0)
noncomputable def ET_spec_TanI:Ent Tryz.prog:= .of1 Tb152 B152 (fun _=>true) F_spec_TanI fun a0 _=>(r_spec_TanI a0).trans (tt_tan_spec a0)
noncomputable def B257:Bod Tryz.prog:=⟨257,Tryz.f257,Tryz.f257.body.getD .skip,Tryz.func257,by kernel_rfl,by kernel_rfl,zK.no _ _⟩
noncomputable def Tb257:Tb Tryz.prog:= {T:= [Y2,Y30],mix:=mix,Es:= [za7,zca,ET_impl_SqrtI,zel,E_impl_LogI,zfY,ET_impl_LogTwoI,ET_impl_LogAt],Bs:= [],d:=1}
noncomputable def t_impl_AsinhI_1 (a0:I64):Tr (Iv):=
 .br (decide (a0.val<=35184372088832)) (.leaf (F_impl_LogI (zL (zbc a0) (zei (zL (zcI (zbc a0)) (zl ⟨1,rfl⟩)))))) (.leaf (zL (zL (zek ⟨1,rfl⟩) (F_impl_LogAt a0)) ⟨⟨0,rfl⟩,⟨16,rfl⟩⟩))
theorem r_impl_AsinhI_1 (a0:I64):Tb257.run B257 [enc a0] (Iv)=(t_impl_AsinhI_1 a0).opt:=by kernel_rfl
noncomputable def zfW:I64->Iv:=fun a0=>(t_impl_AsinhI_1 a0).get
theorem u_impl_AsinhI_1 (a0:I64):(t_impl_AsinhI_1 a0).opt=some (zfW a0):=Tr.zz (by kernel_rfl)
noncomputable def E_impl_AsinhI_1:Ent Tryz.prog:= .of1 Tb257 B257 (fun _=>true) zfW fun a0 _=>(r_impl_AsinhI_1 a0).trans (u_impl_AsinhI_1 a0)
noncomputable def Tb325_AsinhI:Tb Tryz.prog:= {T:= [Y2,Y30,Y33],mix:=mix,Es:= [E_impl_NegI,E_impl_AsinhI_1],Bs:= [],d:=1}
noncomputable def zeB (a0:I64) (d0:FnTag 257):Tr (Iv):=
 .br (decide (a0.val<0)) (.leaf (zdv (zfW (Rng.w .i64 (0-a0.val))))) (.leaf (zfW a0))
theorem r_impl_odd_1_AsinhI (a0:I64) (d0:FnTag 257):capRun Tb325_AsinhI B325 [enc a0,.ptr 0 0] [(0,Cap.ec d0)] 1 (Iv)=(zeB a0 d0).opt:=by kernel_rfl
noncomputable def zbR:I64->FnTag 257->Iv:=fun a0 d0=>(zeB a0 d0).get
theorem u_impl_odd_1_AsinhI (a0:I64) (d0:FnTag 257):(zeB a0 d0).opt=some (zbR a0 d0):=Tr.zz (by kernel_rfl)
noncomputable def E_impl_odd_1_AsinhI:Ent Tryz.prog:= .cap1 Tb325_AsinhI B325 (fun _ _=>true) zbR fun a0 d0 _=>(r_impl_odd_1_AsinhI a0 d0).trans (u_impl_odd_1_AsinhI a0 d0)
noncomputable def B159:Bod Tryz.prog:=⟨159,Tryz.f159,Tryz.f159.body.getD .skip,Tryz.func159,by kernel_rfl,by kernel_rfl,zK.no _ _⟩
noncomputable def Tb159:Tb Tryz.prog:= {T:= [Y2,Y30],mix:=mix,Es:= [zaW,za9,zaa,zbm,E_impl_odd_1_AsinhI],Bs:= [B255,B256],d:=8}
noncomputable def t_impl_AsinhI (a0:Iv):Tr (Iv):=
 .br (zX a0) (.leaf zq) (let c3:=zbR a0.lo ⟨⟩;let c4:=zbR a0.hi ⟨⟩;.br (!(zaH c3 c4)) (.leaf zq) (.leaf (zaE c3.lo c4.hi true)))
theorem r0_impl_AsinhI (a0:Iv):twoRun Tb159 B159 [enc a0] [0,1,2,3] (Iv)=(t_impl_AsinhI a0).opt:=by kernel_rfl
theorem r1_impl_AsinhI (a0:Iv):twoRun Tb159 B159 [enc a0] [1,0,2,3] (Iv)=(t_impl_AsinhI a0).opt:=by kernel_rfl
noncomputable def F_impl_AsinhI:Iv->Iv:=fun a0=>(t_impl_AsinhI a0).get
noncomputable def B244:Bod Tryz.prog:=⟨244,Tryz.f244,Tryz.f244.body.getD .skip,Tryz.func244,by kernel_rfl,by kernel_rfl,zK.no _ _⟩
noncomputable def Tb244_p:Tb Tryz.prog:= {T:= [Y2,Y30],mix:=mix,Es:= [zcn,ET_spec_SqrtI,zeH,E_spec_LogI,zfc,E_spec_l08One,ET_spec_LogTwoI,ET_spec_LogAt],Bs:= [],d:=1}
noncomputable def zen (a0:I64):Tr (Iv):=
 .br (decide (a0.val<0)) (.bad) (.br (decide (a0.val<=35184372088832)) (.leaf (F_spec_LogI (zk (zaT a0) (zar (zk (zao (zaT a0)) zak))))) (.leaf (zk (zk (zaI ⟨1,rfl⟩) (F_spec_LogAt a0)) ⟨⟨0,rfl⟩,⟨16,rfl⟩⟩)))
theorem r_spec_l08Asinh_p (a0:I64):Tb244_p.run B244 [enc a0] (Iv)=(zen a0).opt:=by kernel_rfl
noncomputable def F_spec_l08Asinh_p:I64->Iv:=fun a0=>(zen a0).get
noncomputable def G_spec_l08Asinh_p:I64->Bool:=fun a0=>(zen a0).opt.isSome
noncomputable def E_spec_l08Asinh_p:Ent Tryz.prog:= .of1 Tb244_p B244 G_spec_l08Asinh_p F_spec_l08Asinh_p fun a0 h=>(r_spec_l08Asinh_p a0).trans (Tr.get_some h)
noncomputable def Tb244:Tb Tryz.prog:= {T:= [Y2,Y30],mix:=mix,Es:= [zcn,ET_spec_SqrtI,zeH,E_spec_NegI,E_spec_l08Asinh_p,E_spec_LogI,zfc,E_spec_l08One,ET_spec_LogTwoI,ET_spec_LogAt],Bs:= [],d:=1}
noncomputable def zfF (a0:I64):Tr (Iv):=
 .br (decide (a0.val<0)) (let c1:=(Rng.w .i64 (0-a0.val));.br (G_spec_l08Asinh_p c1) (.leaf (zaO (F_spec_l08Asinh_p c1))) (.bad)) (.br (decide (a0.val<=35184372088832)) (.leaf (F_spec_LogI (zk (zaT a0) (zar (zk (zao (zaT a0)) zak))))) (.leaf (zk (zk (zaI ⟨1,rfl⟩) (F_spec_LogAt a0)) ⟨⟨0,rfl⟩,⟨16,rfl⟩⟩)))
theorem r_spec_l08Asinh (a0:I64):Tb244.run B244 [enc a0] (Iv)=(zfF a0).opt:=by kernel_rfl
noncomputable def F_spec_l08Asinh:I64->Iv:=fun a0=>(zfF a0).get
noncomputable def zeE:I64->Bool:=fun a0=>(zfF a0).opt.isSome
noncomputable def E_spec_l08Asinh:Ent Tryz.prog:= .of1 Tb244 B244 zeE F_spec_l08Asinh fun a0 h=>(r_spec_l08Asinh a0).trans (Tr.get_some h)
noncomputable def B151:Bod Tryz.prog:=⟨151,Tryz.f151,Tryz.f151.body.getD .skip,Tryz.func151,by kernel_rfl,by kernel_rfl,zK.no _ _⟩
noncomputable def Tb151:Tb Tryz.prog:= {T:= [Y2,Y30],mix:=mix,Es:= [zS,zaA,zfs,E_spec_l08Asinh],Bs:= [],d:=1}
noncomputable def t_spec_AsinhI (a0:Iv):Tr (Iv):=
 .br (!(za a0)) (.leaf ze) (.br (zeE a0.lo) (.br (zeE a0.hi) (.leaf (zbC (F_spec_l08Asinh a0.lo) (F_spec_l08Asinh a0.hi))) (.bad)) (.bad))
theorem r_spec_AsinhI (a0:Iv):Tb151.run B151 [enc a0] (Iv)=(t_spec_AsinhI a0).opt:=by kernel_rfl
noncomputable def F_spec_AsinhI:Iv->Iv:=fun a0=>(t_spec_AsinhI a0).get
noncomputable def B268:Bod Tryz.prog:=⟨268,Tryz.f268,Tryz.f268.body.getD .skip,Tryz.func268,by kernel_rfl,by kernel_rfl,zK.no _ _⟩
noncomputable def Tb268:Tb Tryz.prog:= {T:= [Y2,Y30],mix:=mix,Es:= [zbZ,E_spec_HalfI,E_spec_ExpAt],Bs:= [],d:=1}
noncomputable def t_spec_l08Sinh (a0:I64):Tr (Iv):=
 .leaf (zdO (zF (F_spec_ExpAt a0) (F_spec_ExpAt (Rng.w .i64 (0-a0.val)))))
theorem r_spec_l08Sinh (a0:I64):Tb268.run B268 [enc a0] (Iv)=(t_spec_l08Sinh a0).opt:=by kernel_rfl
noncomputable def F_spec_l08Sinh:I64->Iv:=fun a0=>(t_spec_l08Sinh a0).get
theorem u_spec_l08Sinh (a0:I64):(t_spec_l08Sinh a0).opt=some (F_spec_l08Sinh a0):=Tr.zz (by kernel_rfl)
noncomputable def E_spec_l08Sinh:Ent Tryz.prog:= .of1 Tb268 B268 (fun _=>true) F_spec_l08Sinh fun a0 _=>(r_spec_l08Sinh a0).trans (u_spec_l08Sinh a0)
noncomputable def B164:Bod Tryz.prog:=⟨164,Tryz.f164,Tryz.f164.body.getD .skip,Tryz.func164,by kernel_rfl,by kernel_rfl,zK.no _ _⟩
noncomputable def Tb164:Tb Tryz.prog:= {T:= [Y2,Y30],mix:=mix,Es:= [zS,zaA,zfs,E_spec_l08Sinh],Bs:= [],d:=1}
noncomputable def t_spec_SinhI (a0:Iv):Tr (Iv):=
 .br (!(za a0)) (.leaf ze) (.leaf (zbC (F_spec_l08Sinh a0.lo) (F_spec_l08Sinh a0.hi)))
theorem r_spec_SinhI (a0:Iv):Tb164.run B164 [enc a0] (Iv)=(t_spec_SinhI a0).opt:=by kernel_rfl
noncomputable def F_spec_SinhI:Iv->Iv:=fun a0=>(t_spec_SinhI a0).get
theorem u_spec_SinhI (a0:Iv):(t_spec_SinhI a0).opt=some (F_spec_SinhI a0):=Tr.zz (by kernel_rfl)
noncomputable def E_spec_SinhI:Ent Tryz.prog:= .of1 Tb164 B164 (fun _=>true) F_spec_SinhI fun a0 _=>(r_spec_SinhI a0).trans (u_spec_SinhI a0)
noncomputable def B272:Bod Tryz.prog:=⟨272,Tryz.f272,Tryz.f272.body.getD .skip,Tryz.func272,by kernel_rfl,by kernel_rfl,zK.no _ _⟩
noncomputable def Tb272:Tb Tryz.prog:= {T:= [Y2,Y30],mix:=mix,Es:= [zcK,E_impl_HalfI,ET_impl_ExpAt],Bs:= [],d:=1}
noncomputable def t_impl_SinhI_1 (a0:I64):Tr (Iv):=
 .leaf (F_impl_HalfI (zaq (F_impl_ExpAt a0) (F_impl_ExpAt (Rng.w .i64 (0-a0.val)))))
theorem r_impl_SinhI_1 (a0:I64):Tb272.run B272 [enc a0] (Iv)=(t_impl_SinhI_1 a0).opt:=by kernel_rfl
noncomputable def F_impl_SinhI_1:I64->Iv:=fun a0=>(t_impl_SinhI_1 a0).get
theorem u_impl_SinhI_1 (a0:I64):(t_impl_SinhI_1 a0).opt=some (F_impl_SinhI_1 a0):=Tr.zz (by kernel_rfl)
noncomputable def E_impl_SinhI_1:Ent Tryz.prog:= .of1 Tb272 B272 (fun _=>true) F_impl_SinhI_1 fun a0 _=>(r_impl_SinhI_1 a0).trans (u_impl_SinhI_1 a0)
noncomputable def B168:Bod Tryz.prog:=⟨168,Tryz.f168,Tryz.f168.body.getD .skip,Tryz.func168,by kernel_rfl,by kernel_rfl,zK.no _ _⟩
noncomputable def Tb168:Tb Tryz.prog:= {T:= [Y2,Y30],mix:=mix,Es:= [zaW,za9,zaa,zbm,E_impl_SinhI_1],Bs:= [B255],d:=8}
noncomputable def t_impl_SinhI (a0:Iv):Tr (Iv):=
 .br (zX a0) (.leaf zq) (let c3:=F_impl_SinhI_1 a0.lo;let c4:=F_impl_SinhI_1 a0.hi;.br (!(zaH c3 c4)) (.leaf zq) (.leaf (zaE c3.lo c4.hi true)))
theorem r_impl_SinhI (a0:Iv):Tb168.run B168 [enc a0] (Iv)=(t_impl_SinhI a0).opt:=by kernel_rfl
noncomputable def F_impl_SinhI:Iv->Iv:=fun a0=>(t_impl_SinhI a0).get
theorem u_impl_SinhI (a0:Iv):(t_impl_SinhI a0).opt=some (F_impl_SinhI a0):=Tr.zz (by kernel_rfl)
noncomputable def E_impl_SinhI:Ent Tryz.prog:= .of1 Tb168 B168 (fun _=>true) F_impl_SinhI fun a0 _=>(r_impl_SinhI a0).trans (u_impl_SinhI a0)
noncomputable def B399:Bod Tryz.prog:=⟨399,Tryz.f399,Tryz.f399.body.getD .skip,Tryz.func399,by kernel_rfl,by kernel_rfl,zK.no _ _⟩
noncomputable def Tb399:Tb Tryz.prog:= {T:= [Y2,Y30,Y57],mix:=mix,Es:= [zS,zcC,E_spec_l12Ok],Bs:= [],d:=1}
noncomputable def t_spec_ThirdI (a0:Ell):Tr (Iv):=
 .br (!(zbs a0)) (.leaf ze) (.leaf (zQ a0.num (Rng.w .i64 ((Rng.w .i64 (2*a0.den.val)).val-a0.num.val))))
theorem r_spec_ThirdI (a0:Ell):Tb399.run B399 [enc a0] (Iv)=(t_spec_ThirdI a0).opt:=by kernel_rfl
noncomputable def F_spec_ThirdI:Ell->Iv:=fun a0=>(t_spec_ThirdI a0).get
theorem u_spec_ThirdI (a0:Ell):(t_spec_ThirdI a0).opt=some (F_spec_ThirdI a0):=Tr.zz (by kernel_rfl)
noncomputable def E_spec_ThirdI:Ent Tryz.prog:= .of1 Tb399 B399 (fun _=>true) F_spec_ThirdI fun a0 _=>(r_spec_ThirdI a0).trans (u_spec_ThirdI a0)
noncomputable def B394:Bod Tryz.prog:=⟨394,Tryz.f394,Tryz.f394.body.getD .skip,Tryz.func394,by kernel_rfl,by kernel_rfl,zK.no _ _⟩
noncomputable def Tb394:Tb Tryz.prog:= {T:= [Y2,Y30,Y57],mix:=mix,Es:= [zbl,zcJ,E_spec_SinI,zcn,zaJ,zbZ,zeH,E_spec_MajorI,zcC,zb8,zfc,E_spec_ThirdI],Bs:= [],d:=1}
noncomputable def t_spec_l12Arc (a0:Ell) (a1:I64):Tr (Iv):=
 let c1:=zaT a1;let c2:=F_spec_ThirdI a0;let c3:=zao c2;let c56:=zf (zf (zf (zb ⟨2,rfl⟩) c3) c3) c2;.leaf (zf (zn (zcz a0) (zk (zb ⟨1,rfl⟩) c2)) (zk (zk (zF (zk (zF (zf (zk (zk (zb ⟨1,rfl⟩) (zn c3 (zb ⟨4,rfl⟩))) (zn (zf c3 c3) (zb ⟨64,rfl⟩))) c1) (zf (zf (zf (zQ ⟨3,rfl⟩ ⟨2,rfl⟩) c2) (zF (zb ⟨1,rfl⟩) (zn c3 (zb ⟨8,rfl⟩)))) (zad (zf (zb ⟨2,rfl⟩) c1)))) (zf (zf (zf (zQ ⟨15,rfl⟩ ⟨16,rfl⟩) c3) (zF (zb ⟨1,rfl⟩) (zn c3 (zb ⟨4,rfl⟩)))) (zad (zf (zb ⟨4,rfl⟩) c1)))) (zf (zf (zf (zQ ⟨35,rfl⟩ ⟨48,rfl⟩) c3) c2) (zad (zf (zb ⟨6,rfl⟩) c1)))) (zf (zf (zf (zQ ⟨315,rfl⟩ ⟨512,rfl⟩) c3) c3) (zad (zf (zb ⟨8,rfl⟩) c1)))) (zR (Rng.w .i64 (0-c56.hi.val)) c56.hi)))
theorem r_spec_l12Arc (a0:Ell) (a1:I64):Tb394.run B394 [enc a0,enc a1] (Iv)=(t_spec_l12Arc a0 a1).opt:=by kernel_rfl
noncomputable def F_spec_l12Arc:Ell->I64->Iv:=fun a0 a1=>(t_spec_l12Arc a0 a1).get
theorem u_spec_l12Arc (a0:Ell) (a1:I64):(t_spec_l12Arc a0 a1).opt=some (F_spec_l12Arc a0 a1):=Tr.zz (by kernel_rfl)
noncomputable def E_spec_l12Arc:Ent Tryz.prog:= .of2 Tb394 B394 (fun _ _=>true) F_spec_l12Arc fun a0 a1 _=>(r_spec_l12Arc a0 a1).trans (u_spec_l12Arc a0 a1)
noncomputable def B388:Bod Tryz.prog:=⟨388,Tryz.f388,Tryz.f388.body.getD .skip,Tryz.func388,by kernel_rfl,by kernel_rfl,zK.no _ _⟩
noncomputable def Tb388:Tb Tryz.prog:= {T:= [Y2,Y30,Y57],mix:=mix,Es:= [zS,E_spec_l12Ok,zfs,E_spec_InsideI,E_spec_l12Arc],Bs:= [],d:=1}
noncomputable def t_spec_ArcI (a0:Ell) (a1:Iv):Tr (Iv):=
 .br (!(zbs a0)) (.leaf ze) (.br (!(zaC a1 ⟨⟨(-8589934592),rfl⟩,⟨8589934592,rfl⟩⟩)) (.leaf ze) (.leaf (zbC (F_spec_l12Arc a0 a1.lo) (F_spec_l12Arc a0 a1.hi))))
theorem r_spec_ArcI (a0:Ell) (a1:Iv):Tb388.run B388 [enc a0,enc a1] (Iv)=(t_spec_ArcI a0 a1).opt:=by kernel_rfl
noncomputable def F_spec_ArcI:Ell->Iv->Iv:=fun a0 a1=>(t_spec_ArcI a0 a1).get
theorem u_spec_ArcI (a0:Ell) (a1:Iv):(t_spec_ArcI a0 a1).opt=some (F_spec_ArcI a0 a1):=Tr.zz (by kernel_rfl)
noncomputable def E_spec_ArcI:Ent Tryz.prog:= .of2 Tb388 B388 (fun _ _=>true) F_spec_ArcI fun a0 a1 _=>(r_spec_ArcI a0 a1).trans (u_spec_ArcI a0 a1)
noncomputable def B400:Bod Tryz.prog:=⟨400,Tryz.f400,Tryz.f400.body.getD .skip,Tryz.func400,by kernel_rfl,by kernel_rfl,zK.no _ _⟩
noncomputable def B396:Bod Tryz.prog:=⟨396,Tryz.f396,Tryz.f396.body.getD .skip,Tryz.func396,by kernel_rfl,by kernel_rfl,zK.no _ _⟩
noncomputable def Tb396:Tb Tryz.prog:= {T:= [Y2,Y30,Y57],mix:=mix,Es:= [zbF,zcD,zaa],Bs:= [B215,B400],d:=8}
noncomputable def t_impl_ThirdI (a0:Ell):Tr (Iv):=
 .br (!(zaU a0)) (.leaf zq) (.leaf (zU a0.num (Rng.w .i64 ((Rng.w .i64 (2*a0.den.val)).val-a0.num.val))))
theorem r_impl_ThirdI (a0:Ell):Tb396.run B396 [enc a0] (Iv)=(t_impl_ThirdI a0).opt:=by kernel_rfl
noncomputable def F_impl_ThirdI:Ell->Iv:=fun a0=>(t_impl_ThirdI a0).get
theorem u_impl_ThirdI (a0:Ell):(t_impl_ThirdI a0).opt=some (F_impl_ThirdI a0):=Tr.zz (by kernel_rfl)
noncomputable def E_impl_ThirdI:Ent Tryz.prog:= .of1 Tb396 B396 (fun _=>true) F_impl_ThirdI fun a0 _=>(r_impl_ThirdI a0).trans (u_impl_ThirdI a0)
noncomputable def B349:Bod Tryz.prog:=⟨349,Tryz.f349,Tryz.f349.body.getD .skip,Tryz.func349,by kernel_rfl,by kernel_rfl,zK.no _ _⟩
noncomputable def Tb349:Tb Tryz.prog:= {T:= [Y2,Y30],mix:=mix,Es:= [zaW,zaa,zbm],Bs:= [],d:=1}
noncomputable def t_impl_symmetric (a0:Iv):Tr (Iv):=
 .br (zX a0) (.leaf zq) (.leaf (zaE (Rng.w .i64 (0-a0.hi.val)) a0.hi true))
theorem r_impl_symmetric (a0:Iv):Tb349.run B349 [enc a0] (Iv)=(t_impl_symmetric a0).opt:=by kernel_rfl
noncomputable def zcA:Iv->Iv:=fun a0=>(t_impl_symmetric a0).get
theorem u_impl_symmetric (a0:Iv):(t_impl_symmetric a0).opt=some (zcA a0):=Tr.zz (by kernel_rfl)
noncomputable def E_impl_symmetric:Ent Tryz.prog:= .of1 Tb349 B349 (fun _=>true) zcA fun a0 _=>(r_impl_symmetric a0).trans (u_impl_symmetric a0)
noncomputable def B391:Bod Tryz.prog:=⟨391,Tryz.f391,Tryz.f391.body.getD .skip,Tryz.func391,by kernel_rfl,by kernel_rfl,zK.no _ _⟩
noncomputable def Tb391:Tb Tryz.prog:= {T:= [Y2,Y30,Y57],mix:=mix,Es:= [za7,zca,E_impl_times,E_impl_SinI,zbG,zcK,E_impl_MajorI,zb9,zel,zcD,E_impl_oneLess,zfY,E_impl_over,E_impl_symmetric,E_impl_ThirdI],Bs:= [],d:=1}
noncomputable def t_impl_arcAt (a0:Ell) (a1:I64):Tr (Iv):=
 let c1:=F_impl_ThirdI a0;let c2:=zbc a1;let c3:=zcI c1;.leaf (zt (zY (zfb a0) (zL (zl ⟨1,rfl⟩) c1)) (zL (zL (zaq (zL (zaq (zt (zL (zL (zl ⟨1,rfl⟩) (zfm c3 ⟨4,rfl⟩)) (zfm (zt c3 c3) ⟨64,rfl⟩)) c2) (zt (zt (zt (zU ⟨3,rfl⟩ ⟨2,rfl⟩) c1) (zbX (zfm c3 ⟨8,rfl⟩))) (zcm (zcQ ⟨2,rfl⟩ c2)))) (zt (zt (zt (zU ⟨15,rfl⟩ ⟨16,rfl⟩) c3) (zbX (zfm c3 ⟨4,rfl⟩))) (zcm (zcQ ⟨4,rfl⟩ c2)))) (zt (zt (zt (zU ⟨35,rfl⟩ ⟨48,rfl⟩) c3) c1) (zcm (zcQ ⟨6,rfl⟩ c2)))) (zt (zt (zt (zU ⟨315,rfl⟩ ⟨512,rfl⟩) c3) c3) (zcm (zcQ ⟨8,rfl⟩ c2)))) (zcA (zt (zt (zcQ ⟨2,rfl⟩ c3) c3) c1))))
theorem r_impl_arcAt (a0:Ell) (a1:I64):Tb391.run B391 [enc a0,enc a1] (Iv)=(t_impl_arcAt a0 a1).opt:=by kernel_rfl
noncomputable def F_impl_arcAt:Ell->I64->Iv:=fun a0 a1=>(t_impl_arcAt a0 a1).get
theorem u_impl_arcAt (a0:Ell) (a1:I64):(t_impl_arcAt a0 a1).opt=some (F_impl_arcAt a0 a1):=Tr.zz (by kernel_rfl)
noncomputable def E_impl_arcAt:Ent Tryz.prog:= .of2 Tb391 B391 (fun _ _=>true) F_impl_arcAt fun a0 a1 _=>(r_impl_arcAt a0 a1).trans (u_impl_arcAt a0 a1)
noncomputable def B390:Bod Tryz.prog:=⟨390,Tryz.f390,Tryz.f390.body.getD .skip,Tryz.func390,by kernel_rfl,by kernel_rfl,zK.no _ _⟩
noncomputable def Tb390_q:Tb Tryz.prog:= {T:= [Y2,Y30,Y57],mix:=mix,Es:= [E_impl_arcAt],Bs:= [],d:=1}
noncomputable def t_impl_ArcI_1_q (a0:I64) (d0:Ell):Tr (Iv):=
 .leaf (F_impl_arcAt d0 a0)
theorem r_impl_ArcI_1_q (a0:I64) (d0:Ell):capRun Tb390_q B390 [enc a0,.ptr 0 0] [(0,Cap.ec d0)] 1 (Iv)=(t_impl_ArcI_1_q a0 d0).opt:=by kernel_rfl
noncomputable def F_impl_ArcI_1_q:I64->Ell->Iv:=fun a0 d0=>(t_impl_ArcI_1_q a0 d0).get
theorem u_impl_ArcI_1_q (a0:I64) (d0:Ell):(t_impl_ArcI_1_q a0 d0).opt=some (F_impl_ArcI_1_q a0 d0):=Tr.zz (by kernel_rfl)
noncomputable def E_impl_ArcI_1_q:Ent Tryz.prog:= .cap1 Tb390_q B390 (fun _ _=>true) F_impl_ArcI_1_q fun a0 d0 _=>(r_impl_ArcI_1_q a0 d0).trans (u_impl_ArcI_1_q a0 d0)
noncomputable def B379:Bod Tryz.prog:=⟨379,Tryz.f379,Tryz.f379.body.getD .skip,Tryz.func379,by kernel_rfl,by kernel_rfl,zK.no _ _⟩
noncomputable def Tb379:Tb Tryz.prog:= {T:= [Y2,Y30,Y57],mix:=mix,Es:= [zbF,zaW,za8,za9,zaa,zbm,E_impl_ArcI_1_q],Bs:= [B255],d:=8}
noncomputable def t_impl_ArcI (a0:Ell) (a1:Iv):Tr (Iv):=
 .br (!(zaU a0)) (.leaf zq) (.br (!(zan a1.lo ⟨(-8589934592),rfl⟩ ⟨8589934592,rfl⟩)) (.leaf zq) (.br (!(zan a1.hi ⟨(-8589934592),rfl⟩ ⟨8589934592,rfl⟩)) (.leaf zq) (.br (zX a1) (.leaf zq) (let c9:=F_impl_ArcI_1_q a1.lo a0;let c10:=F_impl_ArcI_1_q a1.hi a0;.br (!(zaH c9 c10)) (.leaf zq) (.leaf (zaE c9.lo c10.hi true))))))
theorem r_impl_ArcI (a0:Ell) (a1:Iv):Tb379.run B379 [enc a0,enc a1] (Iv)=(t_impl_ArcI a0 a1).opt:=by kernel_rfl
noncomputable def F_impl_ArcI:Ell->Iv->Iv:=fun a0 a1=>(t_impl_ArcI a0 a1).get
theorem u_impl_ArcI (a0:Ell) (a1:Iv):(t_impl_ArcI a0 a1).opt=some (F_impl_ArcI a0 a1):=Tr.zz (by kernel_rfl)
noncomputable def E_impl_ArcI:Ent Tryz.prog:= .of2 Tb379 B379 (fun _ _=>true) F_impl_ArcI fun a0 a1 _=>(r_impl_ArcI a0 a1).trans (u_impl_ArcI a0 a1)
end
end Go.Proofs.YtkenfaengphiiaaGreat.Ev
namespace Go.Proofs.YtkenfaengphiiaaGreat.Ev
open Go
theorem asinhp (n:I64) (h:0<=n.val/\n.val<1152921504606846976):(zen n).opt=some (zfW n):=by
 have hn:decide (n.val<0)=false:=by simp;omega
 simp only [zen,Tr.opt,zfW,t_impl_AsinhI_1,Tr.get,hn,cond_false,logI_eq,logAt_eq,log2_eq,add_eq,sqrtI_eq,sqrI_F,zbH,one_eq,at_eq]
 rw [l08At_eq (n:=n) (by omega)]
 cases decide (n.val<=35184372088832)<;>rfl
theorem asinh_n (n:I64) (h: -1152921504606846976<n.val/\n.val<1152921504606846976):(zfF n).opt=some (zbR n ⟨⟩):=by
 by_cases hn:n.val<0
 ·have e1:(Rng.w .i64 (0-n.val)).val=0-n.val:=wi (by omega) (by omega)
  have a1:=asinhp (.w .i64 (0-n.val)) (by omega)
  have g1:G_spec_l08Asinh_p (.w .i64 (0-n.val))=true:=by unfold G_spec_l08Asinh_p;rw [a1];rfl
  have f1:F_spec_l08Asinh_p (.w .i64 (0-n.val))=_:=Tr.zae a1
  have hd:decide (n.val<0)=true:=by simpa using hn
  simp only [zfF,Tr.opt,zbR,zeB,Tr.get,hd,cond_true,g1,f1,neg_eq]
 ·have a1:=asinhp n (by omega)
  have hd:decide (n.val<0)=false:=by simpa using hn
  simp only [zen,Tr.opt,hd,cond_false] at a1
  simp only [zfF,Tr.opt,zbR,zeB,Tr.get,hd,cond_false]
  exact a1
theorem asinh_ok (x:Iv):∃y,(t_spec_AsinhI x).opt=some y/\(t_impl_AsinhI x).opt=some y:=by
 simp only [t_spec_AsinhI,t_impl_AsinhI,Tr.opt,isw_eq,areb_eq,zaS,zcN]
 cases h:za x
 ·exact ⟨_,rfl,rfl⟩
 have hb:=(zaN x).1 h
 have a1:=asinh_n x.lo (by omega)
 have a2:=asinh_n x.hi (by omega)
 have g1:zeE x.lo=true:=by unfold zeE;rw [a1];rfl
 have g2:zeE x.hi=true:=by unfold zeE;rw [a2];rfl
 have f1:F_spec_l08Asinh x.lo=_:=Tr.zae a1
 have f2:F_spec_l08Asinh x.hi=_:=Tr.zae a2
 simp only [Bool.not_true,cond_false,cond_true,g1,g2,f1,f2,zbC,zfd,Tr.get]
 cases za (zbR x.lo ⟨⟩)<;>cases za (zbR x.hi ⟨⟩)<;>exact ⟨_,rfl,rfl⟩
theorem asinhI_eq (x:Iv):F_impl_AsinhI x=F_spec_AsinhI x:=by
 obtain ⟨y,h1,h2⟩:=asinh_ok x
 exact (Tr.zae h2).trans (Tr.zae h1).symm
theorem tt_asinh_spec (x:Iv):(t_spec_AsinhI x).opt=some (F_spec_AsinhI x):=by obtain ⟨y,h1,_⟩:=asinh_ok x;exact zc6 h1
theorem tt_asinh_impl (x:Iv):(t_impl_AsinhI x).opt=some (F_impl_AsinhI x):=by obtain ⟨y,_,h1⟩:=asinh_ok x;exact zc6 h1
theorem sinhI_eq (x:Iv):F_impl_SinhI x=F_spec_SinhI x:=by
 simp only [F_impl_SinhI,t_impl_SinhI,F_spec_SinhI,t_spec_SinhI,Tr.get,isw_eq,areb_eq,zaS,zcN,ctr,ends8,F_impl_SinhI_1,t_impl_SinhI_1,F_spec_l08Sinh,t_spec_l08Sinh,expAt_eq,halfI_eq,sub_eq]
def Norm (a:Iv):Prop:=za a=true\/a=ze
theorem norm_whole:Norm ze:= .inr rfl
theorem norm_make (lo hi:I64):Norm (zR lo hi):=by
 by_cases h: -1152921504606846976<lo.val/\lo.val<=hi.val/\hi.val<1152921504606846976
 ·exact .inl (by rw [zbI h];exact (zaN _).2 h)
 ·exact .inr (make_no h)
theorem norm_cond {c:Bool} {a b:Iv} (ha:Norm a) (hb:Norm b):Norm (bif c then a else b):=by cases c<;>assumption
theorem norm_mul (a b:Iv):Norm (zf a b):=by
 simp only [zf,t_spec_MulI,Tr.get]
 repeat' (first|with_reducible exact norm_make _ _|with_reducible exact norm_whole|with_reducible refine norm_cond ?_ ?_)
theorem norm_add (a b:Iv):Norm (zk a b):=by
 simp only [zk,zc2,Tr.get]
 repeat' (first|with_reducible exact norm_make _ _|with_reducible exact norm_whole|with_reducible refine norm_cond ?_ ?_)
theorem norm_hull (a b:Iv):Norm (zT a b):=by
 simp only [zT,t_spec_HullI,Tr.get]
 repeat' (first|with_reducible exact norm_make _ _|with_reducible exact norm_whole|with_reducible refine norm_cond ?_ ?_)
theorem Norm.sym {a:Iv} (h:Norm a):zR (.w .i64 (0-a.hi.val)) a.hi=zcA a:=by
 simp only [zcA,t_impl_symmetric,Tr.get,isw_eq,zaS,zcN,ctr]
 rcases h with h|h
 ·rw [h];rfl
 ·rw [h,zcv]
  simp only [Bool.not_false,ctr]
  exact make_no (by decide +kernel)
theorem third_eq (e:Ell):F_impl_ThirdI e=F_spec_ThirdI e:=by
 simp only [F_impl_ThirdI,t_impl_ThirdI,F_spec_ThirdI,t_spec_ThirdI,Tr.get,ell_eq,quot_eq,zaS]
theorem over_F (x:Iv) (k:I64):zfm x k=zn x (zb k):=by
 simp only [zfm,t_impl_over,Tr.get,divI_F,zbH]
theorem times_F (k:I64) (x:Iv):zcQ k x=zf (zb k) x:=by
 simp only [zcQ,t_impl_times,Tr.get,mulI_F,zbH]
theorem arcAt_eq {e:Ell} {n:I64} (h: -1152921504606846976<n.val/\n.val<1152921504606846976):F_impl_arcAt e n=F_spec_l12Arc e n:=by
 simp only [F_impl_arcAt,t_impl_arcAt,F_spec_l12Arc,t_spec_l12Arc,Tr.get,l08At_eq h,at_eq,third_eq,over_F,times_F,oneLess_eq,mulI_F,divI_F,add_eq,sub_eq,sqrI_F,quot_eq,sinI_eq,zbH,major_eq,(norm_mul _ _).sym]
theorem arcI_eq (e:Ell) (x:Iv):F_impl_ArcI e x=F_spec_ArcI e x:=by
 have h2:za ⟨⟨-8589934592,rfl⟩,⟨8589934592,rfl⟩⟩=true:=(zaN _).2 (by decide)
 have hi:zaC x ⟨⟨-8589934592,rfl⟩,⟨8589934592,rfl⟩⟩=(za x&&decide (-8589934592<=x.lo.val)&&decide (x.hi.val<=8589934592)):=by
  simp only [zaC,zfg,Tr.get,h2,Bool.not_true,cond_false]
  cases za x<;>cases decide (-8589934592<=x.lo.val)<;>simp [ctr,cfl]
 simp only [F_impl_ArcI,t_impl_ArcI,F_spec_ArcI,t_spec_ArcI,F_impl_ArcI_1_q,t_impl_ArcI_1_q,Tr.get,ell_eq,zb0,isw_eq,areb_eq,zaS,zcN,ctr,ends8,hi]
 cases zbs e
 ·simp [ctr,cfl]
 cases ho:za x
 ·simp [ctr,cfl]
 have hb:=(zaN x).1 ho
 by_cases hl: -8589934592<=x.lo.val/\x.hi.val<=8589934592
 ·have w1:decide (-8589934592<=x.lo.val/\x.lo.val<=8589934592)=true:=by simp;omega
  have w2:decide (-8589934592<=x.hi.val/\x.hi.val<=8589934592)=true:=by simp;omega
  have d1:decide (-8589934592<=x.lo.val)=true:=by simpa using hl.1
  have d2:decide (x.hi.val<=8589934592)=true:=by simpa using hl.2
  simp only [w1,w2,d1,d2,Bool.and_self,Bool.not_true,ctr,cfl,arcAt_eq (e:=e) (n:=x.lo) (by omega),arcAt_eq (e:=e) (n:=x.hi) (by omega)]
 ·have w3:(decide (-8589934592<=x.lo.val)&&decide (x.hi.val<=8589934592))=false:=by
   rw [<- Bool.decide_and];simpa using hl
  have w4:(decide (-8589934592<=x.lo.val/\x.lo.val<=8589934592)&&decide (-8589934592<=x.hi.val/\x.hi.val<=8589934592))=false:=by
   rw [<- Bool.decide_and];simp;omega
  simp only [Bool.true_and,w3,Bool.not_false,ctr]
  cases w5:decide (-8589934592<=x.lo.val/\x.lo.val<=8589934592)
  ·simp only [Bool.not_false,ctr]
  ·rw [w5,Bool.true_and] at w4
   simp only [w4,Bool.not_false,Bool.not_true,ctr,cfl]
end Go.Proofs.YtkenfaengphiiaaGreat.Ev
namespace Go.Proofs.YtkenfaengphiiaaGreat.Ev
open Go Go.RowKit
set_option maxRecDepth 100000
section
variable [Amb]
noncomputable def ET_spec_AsinhI:Ent Tryz.prog:= .of1 Tb151 B151 (fun _=>true) F_spec_AsinhI fun a0 _=>(r_spec_AsinhI a0).trans (tt_asinh_spec a0)
noncomputable def ET_impl_AsinhI:Ent Tryz.prog:= .two1 Tb159 B159 (fun _=>true) F_impl_AsinhI 0 [1,2,3] 1 [0,2,3] (by unfold twoShape;kernel_rfl) (by kernel_rfl) (by kernel_rfl) (by kernel_rfl) (fun a0=>by kernel_rfl) (fun a0 _=>(r0_impl_AsinhI a0).trans (tt_asinh_impl a0)) (fun a0 _=>(r1_impl_AsinhI a0).trans (tt_asinh_impl a0))
noncomputable def B376:Bod Tryz.prog:=⟨376,Tryz.f376,Tryz.f376.body.getD .skip,Tryz.func376,by kernel_rfl,by kernel_rfl,zK.no _ _⟩
noncomputable def Tb376:Tb Tryz.prog:= {T:= [],mix:=mix,Es:= [za8],Bs:= [],d:=1}
noncomputable def t_impl_isLatitude (a0:I64):Tr (Bool):=
 .leaf (zan a0 ⟨1,rfl⟩ ⟨6,rfl⟩)
theorem r_impl_isLatitude (a0:I64):Tb376.run B376 [enc a0] (Bool)=(t_impl_isLatitude a0).opt:=by kernel_rfl
noncomputable def zfS:I64->Bool:=fun a0=>(t_impl_isLatitude a0).get
theorem u_impl_isLatitude (a0:I64):(t_impl_isLatitude a0).opt=some (zfS a0):=Tr.zz (by kernel_rfl)
noncomputable def E_impl_isLatitude:Ent Tryz.prog:= .of1 Tb376 B376 (fun _=>true) zfS fun a0 _=>(r_impl_isLatitude a0).trans (u_impl_isLatitude a0)
noncomputable def B377:Bod Tryz.prog:=⟨377,Tryz.f377,Tryz.f377.body.getD .skip,Tryz.func377,by kernel_rfl,by kernel_rfl,zK.no _ _⟩
noncomputable def Tb377:Tb Tryz.prog:= {T:= [Y2,Y30,Y57],mix:=mix,Es:= [zbG,zcK,ET_impl_SqrtI,ET_impl_AsinhI,E_impl_TanI,E_impl_EccI,zfY,E_impl_SinAt,ET_impl_AtanhI],Bs:= [],d:=1}
noncomputable def t_impl_isometric (a0:Ell) (a1:I64):Tr (Iv):=
 let c2:=zei (zfq a0);.leaf (zaq (F_impl_AsinhI (zcH (zbc a1))) (zt c2 (F_impl_AtanhI (zt c2 (F_impl_SinAt a1)))))
theorem r_impl_isometric (a0:Ell) (a1:I64):Tb377.run B377 [enc a0,enc a1] (Iv)=(t_impl_isometric a0 a1).opt:=by kernel_rfl
noncomputable def zeU:Ell->I64->Iv:=fun a0 a1=>(t_impl_isometric a0 a1).get
theorem u_impl_isometric (a0:Ell) (a1:I64):(t_impl_isometric a0 a1).opt=some (zeU a0 a1):=Tr.zz (by kernel_rfl)
noncomputable def E_impl_isometric:Ent Tryz.prog:= .of2 Tb377 B377 (fun _ _=>true) zeU fun a0 a1 _=>(r_impl_isometric a0 a1).trans (u_impl_isometric a0 a1)
noncomputable def B378:Bod Tryz.prog:=⟨378,Tryz.f378,Tryz.f378.body.getD .skip,Tryz.func378,by kernel_rfl,by kernel_rfl,zK.no _ _⟩
noncomputable def Tb378:Tb Tryz.prog:= {T:= [Y2,Y30,Y57],mix:=mix,Es:= [zca,E_impl_times,zbG,ET_impl_SqrtI,E_impl_weightOf,zb9,E_impl_oneLess,E_impl_EccI,ET_impl_AtanhI],Bs:= [],d:=1}
noncomputable def t_impl_zone (a0:Ell) (a1:Iv):Tr (Iv):=
 .br (a0.num.val==0) (.leaf (zcQ ⟨2,rfl⟩ a1)) (let c3:=zei (zfq a0);.leaf (zt (zbX (zfq a0)) (zL (zY a1 (F_impl_weightOf a0 a1)) (zY (F_impl_AtanhI (zt c3 a1)) c3))))
theorem r_impl_zone (a0:Ell) (a1:Iv):Tb378.run B378 [enc a0,enc a1] (Iv)=(t_impl_zone a0 a1).opt:=by kernel_rfl
noncomputable def F_impl_zone:Ell->Iv->Iv:=fun a0 a1=>(t_impl_zone a0 a1).get
theorem u_impl_zone (a0:Ell) (a1:Iv):(t_impl_zone a0 a1).opt=some (F_impl_zone a0 a1):=Tr.zz (by kernel_rfl)
noncomputable def E_impl_zone:Ent Tryz.prog:= .of2 Tb378 B378 (fun _ _=>true) F_impl_zone fun a0 a1 _=>(r_impl_zone a0 a1).trans (u_impl_zone a0 a1)
noncomputable def B344:Bod Tryz.prog:=⟨344,Tryz.f344,Tryz.f344.body.getD .skip,Tryz.func344,by kernel_rfl,by kernel_rfl,zK.no _ _⟩
noncomputable def Tb344:Tb Tryz.prog:= {T:= [Y2,Y30,Y57],mix:=mix,Es:= [za7,E_impl_DirectionI,zbF,zbG,zb9,E_impl_AtanI,E_impl_SinhI,E_impl_AsinI,za8,zaa,E_impl_oneLess,E_impl_EccI,E_impl_quarter,zfY,E_impl_SinAt,E_impl_CosAt,zd7,E_impl_FlatteningI,E_impl_isLatitude,E_impl_isometric,E_impl_zone,E_impl_ArcI],Bs:= [],d:=1}
noncomputable def t_impl_LatitudeAt (a0:I64) (a1:Ell) (a2:I64):Tr (Iv):=
 .br (!(zfS a0)) (.leaf zq) (.br (!(zaU a1)) (.leaf zq) (.br (!(zan a2 (Rng.w .i64 (0-F_impl_quarter.val)) F_impl_quarter)) (.leaf zq) (let c10:=F_impl_SinAt a2;let c11:=F_impl_CosAt a2;.br (a0.val==1) (.leaf (zex (zt (zbX (zdg a1)) c10) c11)) (.br (a0.val==2) (.leaf (zex (zt (zbX (zfq a1)) c10) c11)) (.br (a0.val==3) (.leaf (zcV (F_impl_SinhI (zeU a1 a2)))) (.br (a0.val==4) (.leaf (F_impl_AsinI (zY (F_impl_zone a1 c10) (F_impl_zone a1 (zl ⟨1,rfl⟩))))) (.br (a0.val==5) (.leaf (zY (zt (zaV ⟨1,rfl⟩) (F_impl_ArcI a1 (zbc a2))) (F_impl_ArcI a1 (zaV ⟨1,rfl⟩)))) (.leaf (zeU a1 a2)))))))))
theorem r_impl_LatitudeAt (a0:I64) (a1:Ell) (a2:I64):Tb344.run B344 [enc a0,enc a1,enc a2] (Iv)=(t_impl_LatitudeAt a0 a1 a2).opt:=by kernel_rfl
noncomputable def zfU:I64->Ell->I64->Iv:=fun a0 a1 a2=>(t_impl_LatitudeAt a0 a1 a2).get
theorem u_impl_LatitudeAt (a0:I64) (a1:Ell) (a2:I64):(t_impl_LatitudeAt a0 a1 a2).opt=some (zfU a0 a1 a2):=Tr.zz (by kernel_rfl)
noncomputable def E_impl_LatitudeAt:Ent Tryz.prog:= .of3 Tb344 B344 (fun _ _ _=>true) zfU fun a0 a1 a2 _=>(r_impl_LatitudeAt a0 a1 a2).trans (u_impl_LatitudeAt a0 a1 a2)
noncomputable def B343:Bod Tryz.prog:=⟨343,Tryz.f343,Tryz.f343.body.getD .skip,Tryz.func343,by kernel_rfl,by kernel_rfl,zK.no _ _⟩
noncomputable def Tb343_q:Tb Tryz.prog:= {T:= [Y2,Y30,Y57],mix:=mix,Es:= [E_impl_LatitudeAt],Bs:= [],d:=1}
noncomputable def zfv (a0:I64) (d0:I64) (d1:Ell):Tr (Iv):=
 .leaf (zfU d0 d1 a0)
theorem r_impl_LatitudeI_1_q (a0:I64) (d0:I64) (d1:Ell):capRun Tb343_q B343 [enc a0,.ptr 0 0,.ptr 1 0] [(0,Cap.ec d0),(1,Cap.ec d1)] 2 (Iv)=(zfv a0 d0 d1).opt:=by kernel_rfl
noncomputable def zd3:I64->I64->Ell->Iv:=fun a0 d0 d1=>(zfv a0 d0 d1).get
theorem u_impl_LatitudeI_1_q (a0:I64) (d0:I64) (d1:Ell):(zfv a0 d0 d1).opt=some (zd3 a0 d0 d1):=Tr.zz (by kernel_rfl)
noncomputable def E_impl_LatitudeI_1_q:Ent Tryz.prog:= .cap2 Tb343_q B343 (fun _ _ _=>true) zd3 fun a0 d0 d1 _=>(r_impl_LatitudeI_1_q a0 d0 d1).trans (u_impl_LatitudeI_1_q a0 d0 d1)
noncomputable def B372:Bod Tryz.prog:=⟨372,Tryz.f372,Tryz.f372.body.getD .skip,Tryz.func372,by kernel_rfl,by kernel_rfl,zK.no _ _⟩
noncomputable def Tb372:Tb Tryz.prog:= {T:= [],mix:=mix,Es:= [zbu],Bs:= [],d:=1}
noncomputable def t_spec_l13Kind (a0:I64):Tr (Bool):=
 .leaf (zaj a0 ⟨1,rfl⟩ ⟨6,rfl⟩)
theorem r_spec_l13Kind (a0:I64):Tb372.run B372 [enc a0] (Bool)=(t_spec_l13Kind a0).opt:=by kernel_rfl
noncomputable def F_spec_l13Kind:I64->Bool:=fun a0=>(t_spec_l13Kind a0).get
theorem u_spec_l13Kind (a0:I64):(t_spec_l13Kind a0).opt=some (F_spec_l13Kind a0):=Tr.zz (by kernel_rfl)
noncomputable def E_spec_l13Kind:Ent Tryz.prog:= .of1 Tb372 B372 (fun _=>true) F_spec_l13Kind fun a0 _=>(r_spec_l13Kind a0).trans (u_spec_l13Kind a0)
noncomputable def B373:Bod Tryz.prog:=⟨373,Tryz.f373,Tryz.f373.body.getD .skip,Tryz.func373,by kernel_rfl,by kernel_rfl,zK.no _ _⟩
noncomputable def Tb373:Tb Tryz.prog:= {T:= [Y2,Y30],mix:=mix,Es:= [E_spec_l05Turn],Bs:= [],d:=1}
noncomputable def t_spec_l13End:Tr (I64):=
 .br (zcu ⟨1,rfl⟩) (.leaf (zbw ⟨1,rfl⟩).hi) (.bad)
theorem r_spec_l13End:Tb373.run B373 [] (I64)=(t_spec_l13End).opt:=by kernel_rfl
noncomputable def F_spec_l13End:I64:=(t_spec_l13End).get
theorem u_spec_l13End:(t_spec_l13End).opt=some (F_spec_l13End):=Tr.get_some (by kernel_rfl)
noncomputable def E_spec_l13End:Ent Tryz.prog:= .of0 Tb373 B373 F_spec_l13End (r_spec_l13End.trans u_spec_l13End)
noncomputable def B386:Bod Tryz.prog:=⟨386,Tryz.f386,Tryz.f386.body.getD .skip,Tryz.func386,by kernel_rfl,by kernel_rfl,zK.no _ _⟩
noncomputable def Tb386:Tb Tryz.prog:= {T:= [Y2,Y30,Y57],mix:=mix,Es:= [zcJ,zbZ,ET_spec_SqrtI,E_spec_EccI,ET_spec_AsinhI,ET_spec_TanI,E_spec_SinAt,zfc,ET_spec_AtanhI],Bs:= [],d:=1}
noncomputable def t_spec_l13Iso (a0:Ell) (a1:I64):Tr (Iv):=
 let c2:=zar (zb5 a0);.leaf (zF (F_spec_AsinhI (F_spec_TanI (zaT a1))) (zf c2 (F_spec_AtanhI (zf c2 (F_spec_SinAt a1)))))
theorem r_spec_l13Iso (a0:Ell) (a1:I64):Tb386.run B386 [enc a0,enc a1] (Iv)=(t_spec_l13Iso a0 a1).opt:=by kernel_rfl
noncomputable def F_spec_l13Iso:Ell->I64->Iv:=fun a0 a1=>(t_spec_l13Iso a0 a1).get
theorem u_spec_l13Iso (a0:Ell) (a1:I64):(t_spec_l13Iso a0 a1).opt=some (F_spec_l13Iso a0 a1):=Tr.zz (by kernel_rfl)
noncomputable def E_spec_l13Iso:Ent Tryz.prog:= .of2 Tb386 B386 (fun _ _=>true) F_spec_l13Iso fun a0 a1 _=>(r_spec_l13Iso a0 a1).trans (u_spec_l13Iso a0 a1)
noncomputable def B387:Bod Tryz.prog:=⟨387,Tryz.f387,Tryz.f387.body.getD .skip,Tryz.func387,by kernel_rfl,by kernel_rfl,zK.no _ _⟩
noncomputable def Tb387:Tb Tryz.prog:= {T:= [Y2,Y30,Y57],mix:=mix,Es:= [zbl,zcJ,zcn,zbZ,ET_spec_SqrtI,E_spec_EccI,zeH,zb8,ET_spec_AtanhI],Bs:= [],d:=1}
noncomputable def t_spec_l13Q (a0:Ell) (a1:Iv):Tr (Iv):=
 .br (a0.num.val==0) (.leaf (zf (zb ⟨2,rfl⟩) a1)) (let c3:=zb5 a0;let c4:=zar c3;.leaf (zf (zF (zb ⟨1,rfl⟩) c3) (zk (zn a1 (zF (zb ⟨1,rfl⟩) (zf c3 (zao a1)))) (zn (F_spec_AtanhI (zf c4 a1)) c4))))
theorem r_spec_l13Q (a0:Ell) (a1:Iv):Tb387.run B387 [enc a0,enc a1] (Iv)=(t_spec_l13Q a0 a1).opt:=by kernel_rfl
noncomputable def F_spec_l13Q:Ell->Iv->Iv:=fun a0 a1=>(t_spec_l13Q a0 a1).get
theorem u_spec_l13Q (a0:Ell) (a1:Iv):(t_spec_l13Q a0 a1).opt=some (F_spec_l13Q a0 a1):=Tr.zz (by kernel_rfl)
noncomputable def E_spec_l13Q:Ent Tryz.prog:= .of2 Tb387 B387 (fun _ _=>true) F_spec_l13Q fun a0 a1 _=>(r_spec_l13Q a0 a1).trans (u_spec_l13Q a0 a1)
noncomputable def B374:Bod Tryz.prog:=⟨374,Tryz.f374,Tryz.f374.body.getD .skip,Tryz.func374,by kernel_rfl,by kernel_rfl,zK.no _ _⟩
noncomputable def Tb374:Tb Tryz.prog:= {T:= [Y2,Y30,Y57],mix:=mix,Es:= [zbl,zcJ,zbZ,E_spec_EccI,E_spec_DirectionI,zb8,E_spec_AtanI,E_spec_SinhI,E_spec_AsinI,ET_spec_TurnI,E_spec_FlatteningI,E_spec_SinAt,E_spec_CosAt,zfc,E_spec_l13Iso,E_spec_l13Q,E_spec_ArcI],Bs:= [],d:=1}
noncomputable def t_spec_l13At (a0:I64) (a1:Ell) (a2:I64):Tr (Iv):=
 let c1:=F_spec_SinAt a2;let c2:=F_spec_CosAt a2;.br (a0.val==1) (.leaf (zeu (zf (zF (zb ⟨1,rfl⟩) (zde a1)) c1) c2)) (.br (a0.val==2) (.leaf (zeu (zf (zF (zb ⟨1,rfl⟩) (zb5 a1)) c1) c2)) (.br (a0.val==3) (.leaf (zah (F_spec_SinhI (F_spec_l13Iso a1 a2)))) (.br (a0.val==4) (.leaf (zdo (zn (F_spec_l13Q a1 c1) (F_spec_l13Q a1 (zb ⟨1,rfl⟩))))) (.br (a0.val==5) (.leaf (zn (zf (zW ⟨1,rfl⟩) (F_spec_ArcI a1 (zaT a2))) (F_spec_ArcI a1 (zW ⟨1,rfl⟩)))) (.leaf (F_spec_l13Iso a1 a2))))))
theorem r_spec_l13At (a0:I64) (a1:Ell) (a2:I64):Tb374.run B374 [enc a0,enc a1,enc a2] (Iv)=(t_spec_l13At a0 a1 a2).opt:=by kernel_rfl
noncomputable def F_spec_l13At:I64->Ell->I64->Iv:=fun a0 a1 a2=>(t_spec_l13At a0 a1 a2).get
theorem u_spec_l13At (a0:I64) (a1:Ell) (a2:I64):(t_spec_l13At a0 a1 a2).opt=some (F_spec_l13At a0 a1 a2):=Tr.zz (by kernel_rfl)
noncomputable def E_spec_l13At:Ent Tryz.prog:= .of3 Tb374 B374 (fun _ _ _=>true) F_spec_l13At fun a0 a1 a2 _=>(r_spec_l13At a0 a1 a2).trans (u_spec_l13At a0 a1 a2)
noncomputable def B338:Bod Tryz.prog:=⟨338,Tryz.f338,Tryz.f338.body.getD .skip,Tryz.func338,by kernel_rfl,by kernel_rfl,zK.no _ _⟩
noncomputable def Tb338:Tb Tryz.prog:= {T:= [Y2,Y30,Y57],mix:=mix,Es:= [zbu,zS,E_spec_l12Ok,E_spec_l13Kind,E_spec_l13End,E_spec_l13At],Bs:= [],d:=1}
noncomputable def t_spec_LatitudeAt (a0:I64) (a1:Ell) (a2:I64):Tr (Iv):=
 .br (!(F_spec_l13Kind a0)) (.leaf ze) (.br (!(zbs a1)) (.leaf ze) (.br (!(zaj a2 (Rng.w .i64 (0-F_spec_l13End.val)) F_spec_l13End)) (.leaf ze) (.leaf (F_spec_l13At a0 a1 a2))))
theorem r_spec_LatitudeAt (a0:I64) (a1:Ell) (a2:I64):Tb338.run B338 [enc a0,enc a1,enc a2] (Iv)=(t_spec_LatitudeAt a0 a1 a2).opt:=by kernel_rfl
noncomputable def zet:I64->Ell->I64->Iv:=fun a0 a1 a2=>(t_spec_LatitudeAt a0 a1 a2).get
theorem u_spec_LatitudeAt (a0:I64) (a1:Ell) (a2:I64):(t_spec_LatitudeAt a0 a1 a2).opt=some (zet a0 a1 a2):=Tr.zz (by kernel_rfl)
noncomputable def E_spec_LatitudeAt:Ent Tryz.prog:= .of3 Tb338 B338 (fun _ _ _=>true) zet fun a0 a1 a2 _=>(r_spec_LatitudeAt a0 a1 a2).trans (u_spec_LatitudeAt a0 a1 a2)
noncomputable def B279:Bod Tryz.prog:=⟨279,Tryz.f279,Tryz.f279.body.getD .skip,Tryz.func279,by kernel_rfl,by kernel_rfl,zK.no _ _⟩
noncomputable def Tb279:Tb Tryz.prog:= {T:= [Y2,Y30,Y57],mix:=mix,Es:= [zS,zaA,zfs,E_spec_LatitudeAt],Bs:= [],d:=1}
noncomputable def t_spec_LatitudeI (a0:I64) (a1:Ell) (a2:Iv):Tr (Iv):=
 .br (!(za a2)) (.leaf ze) (.leaf (zbC (zet a0 a1 a2.lo) (zet a0 a1 a2.hi)))
theorem r_spec_LatitudeI (a0:I64) (a1:Ell) (a2:Iv):Tb279.run B279 [enc a0,enc a1,enc a2] (Iv)=(t_spec_LatitudeI a0 a1 a2).opt:=by kernel_rfl
noncomputable def zcd:I64->Ell->Iv->Iv:=fun a0 a1 a2=>(t_spec_LatitudeI a0 a1 a2).get
theorem u_spec_LatitudeI (a0:I64) (a1:Ell) (a2:Iv):(t_spec_LatitudeI a0 a1 a2).opt=some (zcd a0 a1 a2):=Tr.zz (by kernel_rfl)
noncomputable def E_spec_LatitudeI:Ent Tryz.prog:= .of3 Tb279 B279 (fun _ _ _=>true) zcd fun a0 a1 a2 _=>(r_spec_LatitudeI a0 a1 a2).trans (u_spec_LatitudeI a0 a1 a2)
noncomputable def B286:Bod Tryz.prog:=⟨286,Tryz.f286,Tryz.f286.body.getD .skip,Tryz.func286,by kernel_rfl,by kernel_rfl,zK.no _ _⟩
noncomputable def Tb286:Tb Tryz.prog:= {T:= [Y2,Y30],mix:=mix,Es:= [zaW,za9,zaa,zbm,E_impl_LatitudeI_1_q],Bs:= [B255],d:=8}
noncomputable def t_impl_LatitudeI (a0:I64) (a1:Ell) (a2:Iv):Tr (Iv):=
 .br (zX a2) (.leaf zq) (let c3:=zd3 a2.lo a0 a1;let c4:=zd3 a2.hi a0 a1;.br (!(zaH c3 c4)) (.leaf zq) (.leaf (zaE c3.lo c4.hi true)))
theorem r_impl_LatitudeI (a0:I64) (a1:Ell) (a2:Iv):Tb286.run B286 [enc a0,enc a1,enc a2] (Iv)=(t_impl_LatitudeI a0 a1 a2).opt:=by kernel_rfl
noncomputable def zdq:I64->Ell->Iv->Iv:=fun a0 a1 a2=>(t_impl_LatitudeI a0 a1 a2).get
theorem u_impl_LatitudeI (a0:I64) (a1:Ell) (a2:Iv):(t_impl_LatitudeI a0 a1 a2).opt=some (zdq a0 a1 a2):=Tr.zz (by kernel_rfl)
noncomputable def E_impl_LatitudeI:Ent Tryz.prog:= .of3 Tb286 B286 (fun _ _ _=>true) zdq fun a0 a1 a2 _=>(r_impl_LatitudeI a0 a1 a2).trans (u_impl_LatitudeI a0 a1 a2)
end
end Go.Proofs.YtkenfaengphiiaaGreat.Ev
namespace Go.Proofs.YtkenfaengphiiaaGreat.Ev
open Go
theorem q_val:(zbw ⟨1,rfl⟩).hi.val=6746518853:=by kernel_rfl
theorem quarter_F:F_impl_quarter=(zbw ⟨1,rfl⟩).hi:=by
 obtain ⟨g,e1⟩:=turn_in (k:=⟨1,rfl⟩) (by decide) (by decide)
 simp only [F_impl_quarter,t_impl_quarter,Tr.get,turnI_eq,e1]
theorem end_F:F_spec_l13End=(zbw ⟨1,rfl⟩).hi:=by
 obtain ⟨g,e1⟩:=turn_in (k:=⟨1,rfl⟩) (by decide) (by decide)
 simp only [F_spec_l13End,t_spec_l13End,Tr.get,g,ctr]
theorem zone25_eq (e:Ell) (s:Iv):F_impl_zone e s=F_spec_l13Q e s:=by
 simp only [F_impl_zone,t_impl_zone,F_spec_l13Q,t_spec_l13Q,Tr.get,times_eq,ecc_eq,sqrtI_eq,oneLess_eq,weight_eq,divI_F,mulI_F,add_eq,atanhI_eq]
theorem lkind_eq (k:I64):zfS k=F_spec_l13Kind k:=by
 simp only [zfS,t_impl_isLatitude,F_spec_l13Kind,t_spec_l13Kind,Tr.get,zb0,zft]
theorem iso_eq {e:Ell} {n:I64} (h: -1152921504606846976<n.val/\n.val<1152921504606846976):zeU e n=F_spec_l13Iso e n:=by
 simp only [zeU,t_impl_isometric,F_spec_l13Iso,t_spec_l13Iso,Tr.get,l08At_eq h,at_eq,asinhI_eq,tanI_eq,mulI_F,sub_eq,atanhI_eq,sqrtI_eq,ecc_eq,sinAt_eq]
theorem latAt_eq (k:I64) (e:Ell) (n:I64):zfU k e n=zet k e n:=by
 have hq:=q_val
 have en:(Rng.w .i64 (0-(zbw ⟨1,rfl⟩).hi.val)).val= -6746518853:=by rw [hq];exact wi (by omega) (by omega)
 simp only [zfU,t_impl_LatitudeAt,zet,t_spec_LatitudeAt,Tr.get,lkind_eq,ell_eq,quarter_F,end_F,zb0,zft,zaS]
 cases F_spec_l13Kind k
 ·simp only [Bool.not_false,ctr]
 cases zbs e
 ·simp only [Bool.not_false,Bool.not_true,ctr,cfl]
 by_cases hn:(Rng.w .i64 (0-(zbw ⟨1,rfl⟩).hi.val)).val<=n.val/\n.val<=(zbw ⟨1,rfl⟩).hi.val
 ·have hb: -1152921504606846976<n.val/\n.val<1152921504606846976:=by omega
  simp only [hn,and_self,decide_true,Bool.not_true,cfl,F_spec_l13At,t_spec_l13At,Tr.get,iso_eq hb,l08At_eq hb,at_eq,sinAt_eq,cosAt_eq,dirI_eq,oneLess_eq,flatI_eq,ecc_eq,mulI_F,divI_F,atanI_eq,sinhI_eq,asinI_eq,zone25_eq,zbH,turnI_eq,arcI_eq]
 ·simp only [hn,decide_false,Bool.not_false,Bool.not_true,ctr,cfl]
theorem latI_eq (k:I64) (e:Ell) (x:Iv):zdq k e x=zcd k e x:=by
 simp only [zdq,t_impl_LatitudeI,zcd,t_spec_LatitudeI,zd3,zfv,Tr.get,latAt_eq,isw_eq,areb_eq,zaS,zcN,ctr,ends8]
end Go.Proofs.YtkenfaengphiiaaGreat.Ev
