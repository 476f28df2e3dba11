/- The law FnLocal gives true, whatever bytes come in, where the listed tables hold what the program's text lays. The card: the tables tied to the text. No other conditions. (One of the texts of its proof, put together by a program of this session.) -/
import Derived.Test.YtlolpmmloolieaaGreatDoorZW1
import Derived.Test.YtlolpmmloolieaaGreatDoorZPA
set_option linter.unusedSectionVars false
set_option linter.unusedSimpArgs false
set_option linter.unusedVariables false
noncomputable section
namespace Go.Proofs.YtlolpmmloolieaaGreatDoor.Ev
open Go Go.RowKit
set_option maxRecDepth 100000
section
variable [Amb]
def ET_impl_MulDivFloor:Ent Tryz.prog:= .of3 Tb103 B103 (fun _ _ _=>true) zaP fun a0 a1 a2 _=>(r_impl_MulDivFloor a0 a1 a2).trans (tt_md_impl a0 a1 a2)
def ET_impl_Quotient:Ent Tryz.prog:= .of2 Tb80 B80 (fun _ _=>true) zbH fun a0 a1 _=>(r_impl_Quotient a0 a1).trans (tt_q_impl a0 a1)
def ET_impl_HeightI:Ent Tryz.prog:= .of1 Tb72 B72 (fun _=>true) ze2 fun a0 _=>(r_impl_HeightI a0).trans (tt_hgt a0)
def ET_impl_RadiansOf:Ent Tryz.prog:= .of1 Tb63 B63 (fun _=>true) zdM fun a0 _=>(r_impl_RadiansOf a0).trans (tt_rad_impl a0)
def B56:Bod Tryz.prog:=⟨56,Tryz.f56,Tryz.f56.body.getD .skip,Tryz.func56,by kernel_rfl,by kernel_rfl,zai.no _ _⟩
def Tb56:Tb Tryz.prog:= {T:= [Y33],mix:=mix,Es:= [zc6],Bs:= [],d:=1}
def zet (a0:Iv) (a1:Iv):Tr (Bool):=
 .br (za4 a0) (.leaf (za4 a1)) (.leaf false)
theorem r_impl_areBounded (a0:Iv) (a1:Iv):Tb56.run B56 [enc a0,enc a1] (Bool)=(zet a0 a1).opt:=by kernel_rfl
def za0:Iv->Iv->Bool:=fun a0 a1=>(zet a0 a1).get
theorem u_impl_areBounded (a0:Iv) (a1:Iv):(zet a0 a1).opt=some (za0 a0 a1):=Tr.zW (by kernel_rfl)
def zcs:Ent Tryz.prog:= .of2 Tb56 B56 (fun _ _=>true) za0 fun a0 a1 _=>(r_impl_areBounded a0 a1).trans (u_impl_areBounded a0 a1)
def B130:Bod Tryz.prog:=⟨130,Tryz.f130,Tryz.f130.body.getD .skip,Tryz.func130,by kernel_rfl,by kernel_rfl,zai.no _ _⟩
def Tb130:Tb Tryz.prog:= {T:= [Y2,Y75,Y78],mix:=mix,Es:= [zbf],Bs:= [],d:=1}
def zdD (a0:Wide) (a1:I64):Tr (Wide):=
 .br (!(zal a1 ⟨0,rfl⟩ ⟨127,rfl⟩)) (.leaf ⟨⟨0,rfl⟩,⟨0,rfl⟩⟩) (.br (decide (a1.val>=64)) (let c3:=(Rng.w .i64 (a1.val-64));.br (decide (c3.val<0)) (.bad) (.leaf ⟨(Rng.w .i64 (a0.hi.val.fdiv 9223372036854775808)),(Rng.w .u64 ((Rng.w .i64 (a0.hi.val.fdiv (2^min (c3.val).toNat 64))).val))⟩)) (.br (decide (a1.val<0)) (.bad) (.br (decide (a1.val<0)) (.bad) (let c7:=(Rng.w .i64 (64-a1.val));.br (decide (c7.val<0)) (.bad) (.leaf ⟨(Rng.w .i64 (a0.hi.val.fdiv (2^min (a1.val).toNat 64))),(Rng.w .u64 (zaN .or .u64 (Rng.w .u64 (a0.lo.val.fdiv (2^min (a1.val).toNat 64))).val (Rng.w .u64 ((Rng.w .u64 (a0.hi.val)).val*(2^min (c7.val).toNat 64))).val))⟩)))))
theorem r_impl_WideShift (a0:Wide) (a1:I64):Tb130.run B130 [enc a0,enc a1] (Wide)=(zdD a0 a1).opt:=by kernel_rfl
def F_impl_WideShift:Wide->I64->Wide:=fun a0 a1=>(zdD a0 a1).get
def zfd:Wide->I64->Bool:=fun a0 a1=>(zdD a0 a1).opt.isSome
def E_impl_WideShift:Ent Tryz.prog:= .of2 Tb130 B130 zfd F_impl_WideShift fun a0 a1 h=>(r_impl_WideShift a0 a1).trans (Tr.get_some h)
def B106:Bod Tryz.prog:=⟨106,Tryz.f106,Tryz.f106.body.getD .skip,Tryz.func106,by kernel_rfl,by kernel_rfl,zai.no _ _⟩
def Tb106:Tb Tryz.prog:= {T:= [],mix:=mix,Es:= [zbf,zdX,E_impl_WideInt,E_impl_WideShift],Bs:= [],d:=1}
def zdg (a0:I64) (a1:I64) (a2:I64):Tr (T2 I64 Bool):=
 .br (!(zal a2 ⟨0,rfl⟩ ⟨126,rfl⟩)) (.leaf ⟨⟨0,rfl⟩,false⟩) (let c2:=zaW a0 a1;.br (zfd c2 a2) (let c4:=zdU (F_impl_WideShift c2 a2);.leaf ⟨c4.a,c4.b⟩) (.bad))
theorem r_impl_MulFloor (a0:I64) (a1:I64) (a2:I64):Tb106.run B106 [enc a0,enc a1,enc a2] (T2 I64 Bool)=(zdg a0 a1 a2).opt:=by kernel_rfl
def zcx:I64->I64->I64->T2 I64 Bool:=fun a0 a1 a2=>(zdg a0 a1 a2).get
def zfN:I64->I64->I64->Bool:=fun a0 a1 a2=>(zdg a0 a1 a2).opt.isSome
def E_impl_MulFloor:Ent Tryz.prog:= .of3 Tb106 B106 zfN zcx fun a0 a1 a2 h=>(r_impl_MulFloor a0 a1 a2).trans (Tr.get_some h)
def B65:Bod Tryz.prog:=⟨65,Tryz.f65,Tryz.f65.body.getD .skip,Tryz.func65,by kernel_rfl,by kernel_rfl,zai.no _ _⟩
def Tb65:Tb Tryz.prog:= {T:= [],mix:=mix,Es:= [zdn,zfv,E_impl_MulFloor],Bs:= [],d:=1}
def zeR (a0:I64) (a1:I64):Tr (T2 I64 Bool):=
 .br (!(zaC a0)) (.leaf ⟨⟨0,rfl⟩,false⟩) (.br (!(zaC a1)) (.leaf ⟨⟨0,rfl⟩,false⟩) (.br (zfN a0 a1 ⟨32,rfl⟩) (let c3:=zcx a0 a1 ⟨32,rfl⟩;let c4:=zbw c3.a c3.b;.leaf ⟨c4.a,c4.b⟩) (.bad)))
theorem r_impl_MulDown (a0:I64) (a1:I64):Tb65.run B65 [enc a0,enc a1] (T2 I64 Bool)=(zeR a0 a1).opt:=by kernel_rfl
def zcj:I64->I64->T2 I64 Bool:=fun a0 a1=>(zeR a0 a1).get
def zbS:I64->I64->Bool:=fun a0 a1=>(zeR a0 a1).opt.isSome
def E_impl_MulDown:Ent Tryz.prog:= .of2 Tb65 B65 zbS zcj fun a0 a1 h=>(r_impl_MulDown a0 a1).trans (Tr.get_some h)
def B66:Bod Tryz.prog:=⟨66,Tryz.f66,Tryz.f66.body.getD .skip,Tryz.func66,by kernel_rfl,by kernel_rfl,zai.no _ _⟩
def Tb66:Tb Tryz.prog:= {T:= [],mix:=mix,Es:= [E_impl_MulDown,zdn],Bs:= [],d:=1}
def t_impl_MulUp (a0:I64) (a1:I64):Tr (T2 I64 Bool):=
 .br (!(zaC a0)) (.leaf ⟨⟨0,rfl⟩,false⟩) (.br (!(zaC a1)) (.leaf ⟨⟨0,rfl⟩,false⟩) (let c3:=(Rng.w .i64 (0-a0.val));.br (zbS c3 a1) (let c4:=zcj c3 a1;.leaf ⟨(Rng.w .i64 (0-c4.a.val)),c4.b⟩) (.bad)))
theorem r_impl_MulUp (a0:I64) (a1:I64):Tb66.run B66 [enc a0,enc a1] (T2 I64 Bool)=(t_impl_MulUp a0 a1).opt:=by kernel_rfl
def zel:I64->I64->T2 I64 Bool:=fun a0 a1=>(t_impl_MulUp a0 a1).get
def zdr:I64->I64->Bool:=fun a0 a1=>(t_impl_MulUp a0 a1).opt.isSome
def E_impl_MulUp:Ent Tryz.prog:= .of2 Tb66 B66 zdr zel fun a0 a1 h=>(r_impl_MulUp a0 a1).trans (Tr.get_some h)
def Y119:TyE Tryz.prog:=⟨119,2,(.array 2 2 1),[.i64 ⟨0,rfl⟩,.i64 ⟨0,rfl⟩],false,by kernel_rfl,by kernel_rfl,by kernel_rfl,by kernel_rfl,by kernel_rfl,by kernel_rfl⟩
def B64:Bod Tryz.prog:=⟨64,Tryz.f64,Tryz.f64.body.getD .skip,Tryz.func64,by kernel_rfl,by kernel_rfl,zai.no _ _⟩
def B25:Bod Tryz.prog:=⟨25,Tryz.f25,Tryz.f25.body.getD .skip,Tryz.func25,by kernel_rfl,by kernel_rfl,zai.no _ _⟩
def Tb25:Tb Tryz.prog:= {T:= [Y2,Y33,Y119],mix:=mix,Es:= [zcs,zaq,zck,E_impl_MulDown,E_impl_MulUp],Bs:= [B64],d:=8}
def t_impl_MulI (a0:Iv) (a1:Iv):Tr (Iv):=
 .br (!(za0 a0 a1)) (.leaf zJ) (.br (zbS a0.lo a1.lo) (let c3:=zcj a0.lo a1.lo;.br (zdr a0.lo a1.lo) (let c4:=zel a0.lo a1.lo;.br (!c3.b) (.leaf zJ) (.br (!c4.b) (.leaf zJ) (.br (zbS a0.lo a1.hi) (let c7:=zcj a0.lo a1.hi;.br (zdr a0.lo a1.hi) (let c8:=zel a0.lo a1.hi;.br (!c7.b) (.leaf zJ) (.br (!c8.b) (.leaf zJ) (.br (zbS a0.hi a1.lo) (let c11:=zcj a0.hi a1.lo;.br (zdr a0.hi a1.lo) (let c12:=zel a0.hi a1.lo;.br (!c11.b) (.leaf zJ) (.br (!c12.b) (.leaf zJ) (.br (zbS a0.hi a1.hi) (let c17:=zcj a0.hi a1.hi;.br (zdr a0.hi a1.hi) (let c18:=zel a0.hi a1.hi;.br (!c17.b) (.leaf zJ) (.br (!c18.b) (.leaf zJ) (.leaf (zaF (mn (mn (mn (mn c3.a c3.a) c7.a) c11.a) c17.a) (mx (mx (mx (mx c4.a c4.a) c8.a) c12.a) c18.a) true)))) (.bad)) (.bad)))) (.bad)) (.bad)))) (.bad)) (.bad)))) (.bad)) (.bad))
theorem r_impl_MulI (a0:Iv) (a1:Iv):Tb25.run B25 [enc a0,enc a1] (Iv)=(t_impl_MulI a0 a1).opt:=by kernel_rfl
def zar:Iv->Iv->Iv:=fun a0 a1=>(t_impl_MulI a0 a1).get
def B75:Bod Tryz.prog:=⟨75,Tryz.f75,Tryz.f75.body.getD .skip,Tryz.func75,by kernel_rfl,by kernel_rfl,zai.no _ _⟩
def Tb75:Tb Tryz.prog:= {T:= [Y2,Y33],mix:=mix,Es:= [zcl,zbf],Bs:= [],d:=1}
def t_impl_HasI (a0:Iv) (a1:I64):Tr (Bool):=
 .br (zah a0) (.leaf true) (.leaf (zal a1 a0.lo a0.hi))
theorem r_impl_HasI (a0:Iv) (a1:I64):Tb75.run B75 [enc a0,enc a1] (Bool)=(t_impl_HasI a0 a1).opt:=by kernel_rfl
def F_impl_HasI:Iv->I64->Bool:=fun a0 a1=>(t_impl_HasI a0 a1).get
theorem u_impl_HasI (a0:Iv) (a1:I64):(t_impl_HasI a0 a1).opt=some (F_impl_HasI a0 a1):=Tr.zW (by kernel_rfl)
def E_impl_HasI:Ent Tryz.prog:= .of2 Tb75 B75 (fun _ _=>true) F_impl_HasI fun a0 a1 _=>(r_impl_HasI a0 a1).trans (u_impl_HasI a0 a1)
def B76:Bod Tryz.prog:=⟨76,Tryz.f76,Tryz.f76.body.getD .skip,Tryz.func76,by kernel_rfl,by kernel_rfl,zai.no _ _⟩
def Tb76:Tb Tryz.prog:= {T:= [],mix:=mix,Es:= [ET_impl_MulDivFloor,zdn,zfv],Bs:= [],d:=1}
def t_impl_DivDown (a0:I64) (a1:I64):Tr (T2 I64 Bool):=
 .br (!(zaC a0)) (.leaf ⟨⟨0,rfl⟩,false⟩) (.br (!(zaC a1)) (.leaf ⟨⟨0,rfl⟩,false⟩) (.br (decide (a1.val<0)) (let c5:=zaP (Rng.w .i64 (0-a0.val)) ⟨4294967296,rfl⟩ (Rng.w .i64 (0-a1.val));let c6:=zbw c5.a c5.b;.leaf ⟨c6.a,c6.b⟩) (let c7:=zaP a0 ⟨4294967296,rfl⟩ a1;let c8:=zbw c7.a c7.b;.leaf ⟨c8.a,c8.b⟩)))
theorem r_impl_DivDown (a0:I64) (a1:I64):Tb76.run B76 [enc a0,enc a1] (T2 I64 Bool)=(t_impl_DivDown a0 a1).opt:=by kernel_rfl
def zbU:I64->I64->T2 I64 Bool:=fun a0 a1=>(t_impl_DivDown a0 a1).get
theorem u_impl_DivDown (a0:I64) (a1:I64):(t_impl_DivDown a0 a1).opt=some (zbU a0 a1):=Tr.zW (by kernel_rfl)
def E_impl_DivDown:Ent Tryz.prog:= .of2 Tb76 B76 (fun _ _=>true) zbU fun a0 a1 _=>(r_impl_DivDown a0 a1).trans (u_impl_DivDown a0 a1)
def B77:Bod Tryz.prog:=⟨77,Tryz.f77,Tryz.f77.body.getD .skip,Tryz.func77,by kernel_rfl,by kernel_rfl,zai.no _ _⟩
def Tb77:Tb Tryz.prog:= {T:= [],mix:=mix,Es:= [E_impl_DivDown,zdn],Bs:= [],d:=1}
def t_impl_DivUp (a0:I64) (a1:I64):Tr (T2 I64 Bool):=
 .br (!(zaC a0)) (.leaf ⟨⟨0,rfl⟩,false⟩) (.br (!(zaC a1)) (.leaf ⟨⟨0,rfl⟩,false⟩) (let c4:=zbU (Rng.w .i64 (0-a0.val)) a1;.leaf ⟨(Rng.w .i64 (0-c4.a.val)),c4.b⟩))
theorem r_impl_DivUp (a0:I64) (a1:I64):Tb77.run B77 [enc a0,enc a1] (T2 I64 Bool)=(t_impl_DivUp a0 a1).opt:=by kernel_rfl
def zdu:I64->I64->T2 I64 Bool:=fun a0 a1=>(t_impl_DivUp a0 a1).get
theorem u_impl_DivUp (a0:I64) (a1:I64):(t_impl_DivUp a0 a1).opt=some (zdu a0 a1):=Tr.zW (by kernel_rfl)
def E_impl_DivUp:Ent Tryz.prog:= .of2 Tb77 B77 (fun _ _=>true) zdu fun a0 a1 _=>(r_impl_DivUp a0 a1).trans (u_impl_DivUp a0 a1)
def B32:Bod Tryz.prog:=⟨32,Tryz.f32,Tryz.f32.body.getD .skip,Tryz.func32,by kernel_rfl,by kernel_rfl,zai.no _ _⟩
def Tb32:Tb Tryz.prog:= {T:= [Y2,Y33,Y119],mix:=mix,Es:= [zcs,zaq,zck,E_impl_HasI,E_impl_DivDown,E_impl_DivUp],Bs:= [B64],d:=8}
def t_impl_DivI (a0:Iv) (a1:Iv):Tr (Iv):=
 .br (!(za0 a0 a1)) (.leaf zJ) (.br (F_impl_HasI a1 ⟨0,rfl⟩) (.leaf zJ) (let c5:=zbU a0.lo a1.lo;let c6:=zdu a0.lo a1.lo;.br (!c5.b) (.leaf zJ) (.br (!c6.b) (.leaf zJ) (let c9:=zbU a0.lo a1.hi;let c10:=zdu a0.lo a1.hi;.br (!c9.b) (.leaf zJ) (.br (!c10.b) (.leaf zJ) (let c14:=zbU a0.hi a1.lo;let c15:=zdu a0.hi a1.lo;.br (!c14.b) (.leaf zJ) (.br (!c15.b) (.leaf zJ) (let c19:=zbU a0.hi a1.hi;let c20:=zdu a0.hi a1.hi;.br (!c19.b) (.leaf zJ) (.br (!c20.b) (.leaf zJ) (.leaf (zaF (mn (mn (mn (mn c5.a c5.a) c9.a) c14.a) c19.a) (mx (mx (mx (mx c6.a c6.a) c10.a) c15.a) c20.a) true)))))))))))
theorem r_impl_DivI (a0:Iv) (a1:Iv):Tb32.run B32 [enc a0,enc a1] (Iv)=(t_impl_DivI a0 a1).opt:=by kernel_rfl
def zbs:Iv->Iv->Iv:=fun a0 a1=>(t_impl_DivI a0 a1).get
theorem u_impl_DivI (a0:Iv) (a1:Iv):(t_impl_DivI a0 a1).opt=some (zbs a0 a1):=Tr.zW (by kernel_rfl)
def E_impl_DivI:Ent Tryz.prog:= .of2 Tb32 B32 (fun _ _=>true) zbs fun a0 a1 _=>(r_impl_DivI a0 a1).trans (u_impl_DivI a0 a1)
def B59:Bod Tryz.prog:=⟨59,Tryz.f59,Tryz.f59.body.getD .skip,Tryz.func59,by kernel_rfl,by kernel_rfl,zai.no _ _⟩
def Tb59:Tb Tryz.prog:= {T:= [Y2,Y33],mix:=mix,Es:= [zcl,zaq,E_impl_HasI,E_impl_abs],Bs:= [],d:=1}
def t_impl_AbsI (a0:Iv):Tr (Iv):=
 .br (zah a0) (.leaf zJ) (let c5:=zfr a0.lo;let c6:=zfr a0.hi;.br (F_impl_HasI a0 ⟨0,rfl⟩) (.leaf ⟨⟨0,rfl⟩,(mx c5 c6)⟩) (.leaf ⟨(mn (zfr a0.lo) (zfr a0.hi)),(mx c5 c6)⟩))
theorem r_impl_AbsI (a0:Iv):Tb59.run B59 [enc a0] (Iv)=(t_impl_AbsI a0).opt:=by kernel_rfl
def zc2:Iv->Iv:=fun a0=>(t_impl_AbsI a0).get
theorem u_impl_AbsI (a0:Iv):(t_impl_AbsI a0).opt=some (zc2 a0):=Tr.zW (by kernel_rfl)
def E_impl_AbsI:Ent Tryz.prog:= .of1 Tb59 B59 (fun _=>true) zc2 fun a0 _=>(r_impl_AbsI a0).trans (u_impl_AbsI a0)
def B37:Bod Tryz.prog:=⟨37,Tryz.f37,Tryz.f37.body.getD .skip,Tryz.func37,by kernel_rfl,by kernel_rfl,zai.no _ _⟩
def Tb37:Tb Tryz.prog:= {T:= [Y2,Y33],mix:=mix,Es:= [zcl,zaq,E_impl_AbsI,zck,E_impl_MulDown,E_impl_MulUp],Bs:= [],d:=1}
def t_impl_SqrI (a0:Iv):Tr (Iv):=
 .br (zah a0) (.leaf zJ) (let c3:=zc2 a0;.br (zbS c3.lo c3.lo) (let c4:=zcj c3.lo c3.lo;.br (zdr c3.hi c3.hi) (let c5:=zel c3.hi c3.hi;.br c4.b (.leaf (zaF c4.a c5.a c5.b)) (.leaf (zaF c4.a c5.a false))) (.bad)) (.bad))
theorem r_impl_SqrI (a0:Iv):Tb37.run B37 [enc a0] (Iv)=(t_impl_SqrI a0).opt:=by kernel_rfl
def zek:Iv->Iv:=fun a0=>(t_impl_SqrI a0).get
structure zbv where
 x0:U64
 x1:I64
 x2:I64
 x3:U64
instance:Inhabited zbv:=⟨⟨default,default,default,default⟩⟩
def st_impl_WideSqrt_5 (x:zbv):St:=⟨[(1,.ptr 0 0),(4,.u64 x.x0),(5,.i64 x.x1)],46,⟨[(0,[.i64 x.x2,.u64 x.x3])],1,0⟩⟩
def rd_impl_WideSqrt_5:St->Option zbv:=fun s=>match s with
 | ⟨[(1,.ptr 0 0),(4,.u64 x0),(5,.i64 x1)],46,⟨[(0,[.i64 x2,.u64 x3])],1,0⟩⟩=>some ⟨x0,x1,x2,x3⟩
 | _=>none
def zco (x:zbv):Tr (Lp zbv):=
 .br (decide (x.x1.val>=0)) (.br (decide (x.x1.val<0)) (.bad) (let c2:=(Rng.w .u64 (zaN .or .u64 x.x0.val (Rng.w .u64 (1*(2^min (x.x1.val).toNat 64))).val));let c3:=zcq c2 c2;.br (decide (c3.a.val<(Rng.w .u64 (x.x2.val)).val)) (.leaf (.again ⟨c2,(Rng.w .i64 (x.x1.val-1)),x.x2,x.x3⟩)) (.br (c3.a.val==(Rng.w .u64 (x.x2.val)).val) (.br (decide (c3.b.val<=x.x3.val)) (.leaf (.again ⟨c2,(Rng.w .i64 (x.x1.val-1)),x.x2,x.x3⟩)) (.leaf (.again ⟨x.x0,(Rng.w .i64 (x.x1.val-1)),x.x2,x.x3⟩))) (.leaf (.again ⟨x.x0,(Rng.w .i64 (x.x1.val-1)),x.x2,x.x3⟩))))) (.leaf (.out ⟨x.x0,x.x1,x.x2,x.x3⟩))
def zez (x:zbv):Bool:=(Lf zco 66 x).opt.isSome
def L_impl_WideSqrt_5 (x:zbv):zbv:=(Lf zco 66 x).get
def TbL_impl_WideSqrt_5:Tb Tryz.prog:= {T:= [Y2,Y75,Y78],mix:=mix,Es:= [E_math_bits_Mul64],Bs:= [],d:=1}
def P_impl_WideSqrt_5:LpF:=loopF [1,4,5] [0] 1 rd_impl_WideSqrt_5 st_impl_WideSqrt_5 (.exit 0) zez L_impl_WideSqrt_5
theorem lok_impl_WideSqrt_5:LoopOk Tryz.prog (loopAt (Tryz.f102.body.getD .skip) 0) P_impl_WideSqrt_5:=loopF_ok (t:=TbL_impl_WideSqrt_5) (lt:=fun _=>none) (body:=zco) (n:=66) (by intro h;cases h) (fun _ _ _ h=>by cases h)
 (by intro s x h;unfold rd_impl_WideSqrt_5 at h;split at h<;>cases h;rfl) (fun x b cs h=>lk_lt (l:=(st_impl_WideSqrt_5 x).mm.blks) (by kernel_rfl) h) (by intro x;kernel_rfl) (fun x h=>Tr.get_some h)
def B102:Bod Tryz.prog:=⟨102,Tryz.f102,Tryz.f102.body.getD .skip,Tryz.func102,by kernel_rfl,by kernel_rfl,⟨ltOf [(5,P_impl_WideSqrt_5)],zai.of (ks:= [5]) (by kernel_rfl) (by
 intro i k h f hf
 match i,h with
 | 0,h=>cases h;obtain rfl:P_impl_WideSqrt_5=f:=Option.some.inj hf;exact lok_impl_WideSqrt_5
 | n+1,h=>simp at h)⟩⟩
def Tb102:Tb Tryz.prog:= {T:= [Y2,Y75,Y78],mix:=mix,Es:= [],Bs:= [],d:=1}
def zdb (a0:Wide):Tr (T2 U64 Bool):=
 .br (decide (a0.hi.val<0)) (.leaf ⟨⟨0,rfl⟩,false⟩) (.br (zez ⟨⟨0,rfl⟩,⟨63,rfl⟩,a0.hi,a0.lo⟩) (.leaf ⟨(L_impl_WideSqrt_5 ⟨⟨0,rfl⟩,⟨63,rfl⟩,a0.hi,a0.lo⟩).x0,true⟩) (.bad))
theorem r_impl_WideSqrt (a0:Wide):Tb102.run B102 [enc a0] (T2 U64 Bool)=(zdb a0).opt:=by kernel_rfl
def zb0:Wide->T2 U64 Bool:=fun a0=>(zdb a0).get
def zfL:Wide->Bool:=fun a0=>(zdb a0).opt.isSome
def E_impl_WideSqrt:Ent Tryz.prog:= .of1 Tb102 B102 zfL zb0 fun a0 h=>(r_impl_WideSqrt a0).trans (Tr.get_some h)
def B165:Bod Tryz.prog:=⟨165,Tryz.f165,Tryz.f165.body.getD .skip,Tryz.func165,by kernel_rfl,by kernel_rfl,zai.no _ _⟩
def Tb165:Tb Tryz.prog:= {T:= [Y2,Y75],mix:=mix,Es:= [zdX,E_impl_WideSqrt],Bs:= [],d:=1}
def zcC (a0:I64) (a1:I64):Tr (T2 I64 Bool):=
 .br (decide (a0.val<0)) (.leaf ⟨⟨0,rfl⟩,false⟩) (.br (decide (a1.val<0)) (.leaf ⟨⟨0,rfl⟩,false⟩) (let c1:=zaW a0 a1;.br (zfL c1) (let c2:=zb0 c1;.leaf ⟨(Rng.w .i64 (c2.a.val)),c2.b⟩) (.bad)))
theorem r_impl_SqrtFloor (a0:I64) (a1:I64):Tb165.run B165 [enc a0,enc a1] (T2 I64 Bool)=(zcC a0 a1).opt:=by kernel_rfl
def zdL:I64->I64->T2 I64 Bool:=fun a0 a1=>(zcC a0 a1).get
def zfe:I64->I64->Bool:=fun a0 a1=>(zcC a0 a1).opt.isSome
def E_impl_SqrtFloor:Ent Tryz.prog:= .of2 Tb165 B165 zfe zdL fun a0 a1 h=>(r_impl_SqrtFloor a0 a1).trans (Tr.get_some h)
def B139:Bod Tryz.prog:=⟨139,Tryz.f139,Tryz.f139.body.getD .skip,Tryz.func139,by kernel_rfl,by kernel_rfl,zai.no _ _⟩
def Tb139:Tb Tryz.prog:= {T:= [],mix:=mix,Es:= [zdn,zfv,E_impl_SqrtFloor],Bs:= [],d:=1}
def zde (a0:I64):Tr (T2 I64 Bool):=
 .br (!(zaC a0)) (.leaf ⟨⟨0,rfl⟩,false⟩) (.br (zfe a0 ⟨4294967296,rfl⟩) (let c2:=zdL a0 ⟨4294967296,rfl⟩;let c3:=zbw c2.a c2.b;.leaf ⟨c3.a,c3.b⟩) (.bad))
theorem r_impl_SqrtDown (a0:I64):Tb139.run B139 [enc a0] (T2 I64 Bool)=(zde a0).opt:=by kernel_rfl
def zdl:I64->T2 I64 Bool:=fun a0=>(zde a0).get
def zee:I64->Bool:=fun a0=>(zde a0).opt.isSome
def E_impl_SqrtDown:Ent Tryz.prog:= .of1 Tb139 B139 zee zdl fun a0 h=>(r_impl_SqrtDown a0).trans (Tr.get_some h)
def B140:Bod Tryz.prog:=⟨140,Tryz.f140,Tryz.f140.body.getD .skip,Tryz.func140,by kernel_rfl,by kernel_rfl,zai.no _ _⟩
def Tb140:Tb Tryz.prog:= {T:= [Y2,Y75,Y78],mix:=mix,Es:= [zdX,zfv,E_impl_SqrtDown],Bs:= [],d:=1}
def zdv (a0:I64):Tr (T2 I64 Bool):=
 .br (zee a0) (let c1:=zdl a0;.br c1.b (let c2:=zaW c1.a c1.a;let c3:=zaW a0 ⟨4294967296,rfl⟩;.br (!((c2.hi.val==c3.hi.val)&&((c2.lo.val==c3.lo.val)&&true))) (let c6:=zbw (Rng.w .i64 (c1.a.val+1)) c1.b;.leaf ⟨c6.a,c6.b⟩) (let c7:=zbw c1.a c1.b;.leaf ⟨c7.a,c7.b⟩)) (let c8:=zbw c1.a c1.b;.leaf ⟨c8.a,c8.b⟩)) (.bad)
theorem r_impl_SqrtUp (a0:I64):Tb140.run B140 [enc a0] (T2 I64 Bool)=(zdv a0).opt:=by kernel_rfl
def zeE:I64->T2 I64 Bool:=fun a0=>(zdv a0).get
def G_impl_SqrtUp:I64->Bool:=fun a0=>(zdv a0).opt.isSome
def E_impl_SqrtUp:Ent Tryz.prog:= .of1 Tb140 B140 G_impl_SqrtUp zeE fun a0 h=>(r_impl_SqrtUp a0).trans (Tr.get_some h)
def B112:Bod Tryz.prog:=⟨112,Tryz.f112,Tryz.f112.body.getD .skip,Tryz.func112,by kernel_rfl,by kernel_rfl,zai.no _ _⟩
def Tb112:Tb Tryz.prog:= {T:= [Y2,Y33],mix:=mix,Es:= [zcl,zaq,zck,E_impl_SqrtDown,E_impl_SqrtUp],Bs:= [],d:=1}
def t_impl_SqrtI (a0:Iv):Tr (Iv):=
 .br (zah a0) (.leaf zJ) (.br (decide (a0.lo.val<0)) (.leaf zJ) (.br (zee a0.lo) (let c4:=zdl a0.lo;.br (G_impl_SqrtUp a0.hi) (let c5:=zeE a0.hi;.br c4.b (.leaf (zaF c4.a c5.a c5.b)) (.leaf (zaF c4.a c5.a false))) (.bad)) (.bad)))
theorem r_impl_SqrtI (a0:Iv):Tb112.run B112 [enc a0] (Iv)=(t_impl_SqrtI a0).opt:=by kernel_rfl
def F_impl_SqrtI:Iv->Iv:=fun a0=>(t_impl_SqrtI a0).get
def B92:Bod Tryz.prog:=⟨92,Tryz.f92,Tryz.f92.body.getD .skip,Tryz.func92,by kernel_rfl,by kernel_rfl,zai.no _ _⟩
def Tb92:Tb Tryz.prog:= {T:= [],mix:=mix,Es:= [],Bs:= [],d:=1}
def zeo (a0:I64) (a1:I64):Tr (I64):=
 .br (decide (a0.val<a1.val)) (.leaf a0) (.leaf a1)
theorem r_spec_l00Min (a0:I64) (a1:I64):Tb92.run B92 [enc a0,enc a1] (I64)=(zeo a0 a1).opt:=by kernel_rfl
def zt:I64->I64->I64:=fun a0 a1=>(zeo a0 a1).get
theorem u_spec_l00Min (a0:I64) (a1:I64):(zeo a0 a1).opt=some (zt a0 a1):=Tr.zW (by kernel_rfl)
def E_spec_l00Min:Ent Tryz.prog:= .of2 Tb92 B92 (fun _ _=>true) zt fun a0 a1 _=>(r_spec_l00Min a0 a1).trans (u_spec_l00Min a0 a1)
def B91:Bod Tryz.prog:=⟨91,Tryz.f91,Tryz.f91.body.getD .skip,Tryz.func91,by kernel_rfl,by kernel_rfl,zai.no _ _⟩
def Tb91:Tb Tryz.prog:= {T:= [],mix:=mix,Es:= [],Bs:= [],d:=1}
def zep (a0:I64) (a1:I64):Tr (I64):=
 .br (decide (a0.val>a1.val)) (.leaf a0) (.leaf a1)
theorem r_spec_l00Max (a0:I64) (a1:I64):Tb91.run B91 [enc a0,enc a1] (I64)=(zep a0 a1).opt:=by kernel_rfl
def zo:I64->I64->I64:=fun a0 a1=>(zep a0 a1).get
theorem u_spec_l00Max (a0:I64) (a1:I64):(zep a0 a1).opt=some (zo a0 a1):=Tr.zW (by kernel_rfl)
def E_spec_l00Max:Ent Tryz.prog:= .of2 Tb91 B91 (fun _ _=>true) zo fun a0 a1 _=>(r_spec_l00Max a0 a1).trans (u_spec_l00Max a0 a1)
def B157:Bod Tryz.prog:=⟨157,Tryz.f157,Tryz.f157.body.getD .skip,Tryz.func157,by kernel_rfl,by kernel_rfl,zai.no _ _⟩
def Tb157:Tb Tryz.prog:= {T:= [Y2,Y33],mix:=mix,Es:= [E_spec_l00In],Bs:= [],d:=1}
def zcI (a0:Iv) (a1:I64):Tr (Bool):=
 .leaf (zV a1 a0.lo a0.hi)
theorem r_spec_l04Has (a0:Iv) (a1:I64):Tb157.run B157 [enc a0,enc a1] (Bool)=(zcI a0 a1).opt:=by kernel_rfl
def zaL:Iv->I64->Bool:=fun a0 a1=>(zcI a0 a1).get
theorem u_spec_l04Has (a0:Iv) (a1:I64):(zcI a0 a1).opt=some (zaL a0 a1):=Tr.zW (by kernel_rfl)
def E_spec_l04Has:Ent Tryz.prog:= .of2 Tb157 B157 (fun _ _=>true) zaL fun a0 a1 _=>(r_spec_l04Has a0 a1).trans (u_spec_l04Has a0 a1)
def B124:Bod Tryz.prog:=⟨124,Tryz.f124,Tryz.f124.body.getD .skip,Tryz.func124,by kernel_rfl,by kernel_rfl,zai.no _ _⟩
def Tb124:Tb Tryz.prog:= {T:= [Y2,Y33],mix:=mix,Es:= [E_spec_l00Max,E_spec_l00Min,E_spec_l04Has],Bs:= [],d:=1}
def zcU (a0:Iv):Tr (T2 I64 I64):=
 let c2:=zo a0.lo (Rng.w .i64 (0-a0.lo.val));let c4:=zo a0.hi (Rng.w .i64 (0-a0.hi.val));.br (zaL a0 ⟨0,rfl⟩) (.leaf ⟨⟨0,rfl⟩,(zo c2 c4)⟩) (.leaf ⟨(zt c2 c4),(zo c2 c4)⟩)
theorem r_spec_l04Ends (a0:Iv):Tb124.run B124 [enc a0] (T2 I64 I64)=(zcU a0).opt:=by kernel_rfl
def zF:Iv->T2 I64 I64:=fun a0=>(zcU a0).get
theorem u_spec_l04Ends (a0:Iv):(zcU a0).opt=some (zF a0):=Tr.zW (by kernel_rfl)
def E_spec_l04Ends:Ent Tryz.prog:= .of1 Tb124 B124 (fun _=>true) zF fun a0 _=>(r_spec_l04Ends a0).trans (u_spec_l04Ends a0)
structure zbK where
 x0:U64
 x1:I64
 x2:I64
 x3:U64
instance:Inhabited zbK:=⟨⟨default,default,default,default⟩⟩
def st_spec_l02Root_3 (x:zbK):St:=⟨[(1,.ptr 0 0),(3,.u64 x.x0),(4,.i64 x.x1)],43,⟨[(0,[.i64 x.x2,.u64 x.x3])],1,0⟩⟩
def rd_spec_l02Root_3:St->Option zbK:=fun s=>match s with
 | ⟨[(1,.ptr 0 0),(3,.u64 x0),(4,.i64 x1)],43,⟨[(0,[.i64 x2,.u64 x3])],1,0⟩⟩=>some ⟨x0,x1,x2,x3⟩
 | _=>none
def zbb (x:zbK):Tr (Lp zbK):=
 .br (decide (x.x1.val>=0)) (let c2:=(Rng.w .u64 (zaN .or .u64 x.x0.val (Rng.w .u64 (1*(2^min ((Rng.w .u64 (x.x1.val)).val).toNat 64))).val));let c3:=zdi c2 c2;.br (decide (c3.a.val<(Rng.w .u64 (x.x2.val)).val)) (.leaf (.again ⟨c2,(Rng.w .i64 (x.x1.val-1)),x.x2,x.x3⟩)) (.br (c3.a.val==(Rng.w .u64 (x.x2.val)).val) (.br (decide (c3.b.val<=x.x3.val)) (.leaf (.again ⟨c2,(Rng.w .i64 (x.x1.val-1)),x.x2,x.x3⟩)) (.leaf (.again ⟨x.x0,(Rng.w .i64 (x.x1.val-1)),x.x2,x.x3⟩))) (.leaf (.again ⟨x.x0,(Rng.w .i64 (x.x1.val-1)),x.x2,x.x3⟩)))) (.leaf (.out ⟨x.x0,x.x1,x.x2,x.x3⟩))
def zcE (x:zbK):Bool:=(Lf zbb 66 x).opt.isSome
def zfb (x:zbK):zbK:=(Lf zbb 66 x).get
def TbL_spec_l02Root_3:Tb Tryz.prog:= {T:= [Y2,Y3,Y75,Y78,Y86],mix:=mix,Es:= [E_spec_l02Times],Bs:= [],d:=1}
def P_spec_l02Root_3:LpF:=loopF [1,3,4] [0] 1 rd_spec_l02Root_3 st_spec_l02Root_3 (.exit 0) zcE zfb
theorem lok_spec_l02Root_3:LoopOk Tryz.prog (loopAt (Tryz.f48.body.getD .skip) 0) P_spec_l02Root_3:=loopF_ok (t:=TbL_spec_l02Root_3) (lt:=fun _=>none) (body:=zbb) (n:=66) (by intro h;cases h) (fun _ _ _ h=>by cases h)
 (by intro s x h;unfold rd_spec_l02Root_3 at h;split at h<;>cases h;rfl) (fun x b cs h=>lk_lt (l:=(st_spec_l02Root_3 x).mm.blks) (by kernel_rfl) h) (by intro x;kernel_rfl) (fun x h=>Tr.get_some h)
def B48:Bod Tryz.prog:=⟨48,Tryz.f48,Tryz.f48.body.getD .skip,Tryz.func48,by kernel_rfl,by kernel_rfl,⟨ltOf [(3,P_spec_l02Root_3)],zai.of (ks:= [3]) (by kernel_rfl) (by
 intro i k h f hf
 match i,h with
 | 0,h=>cases h;obtain rfl:P_spec_l02Root_3=f:=Option.some.inj hf;exact lok_spec_l02Root_3
 | n+1,h=>simp at h)⟩⟩
def Tb48:Tb Tryz.prog:= {T:= [Y2,Y3,Y75,Y78,Y86],mix:=mix,Es:= [],Bs:= [],d:=1}
def zbQ (a0:Wide):Tr (U64):=
 .br (zcE ⟨⟨0,rfl⟩,⟨63,rfl⟩,a0.hi,a0.lo⟩) (.leaf (zfb ⟨⟨0,rfl⟩,⟨63,rfl⟩,a0.hi,a0.lo⟩).x0) (.bad)
theorem r_spec_l02Root (a0:Wide):Tb48.run B48 [enc a0] (U64)=(zbQ a0).opt:=by kernel_rfl
def zq:Wide->U64:=fun a0=>(zbQ a0).get
def G_spec_l02Root:Wide->Bool:=fun a0=>(zbQ a0).opt.isSome
def t_spec_l02Shift (a0:Wide) (a1:I64):Tr (Wide):=
 .br (a1.val==0) (.leaf a0) (.br (decide (a1.val<64)) (.leaf ⟨(Rng.w .i64 (a0.hi.val.fdiv (2^min ((Rng.w .u64 (a1.val)).val).toNat 64))),(Rng.w .u64 (zaN .or .u64 (Rng.w .u64 (a0.lo.val.fdiv (2^min ((Rng.w .u64 (a1.val)).val).toNat 64))).val (Rng.w .u64 ((Rng.w .u64 (a0.hi.val)).val*(2^min ((Rng.w .u64 ((Rng.w .i64 (64-a1.val)).val)).val).toNat 64))).val))⟩) (.leaf ⟨(Rng.w .i64 (a0.hi.val.fdiv 9223372036854775808)),(Rng.w .u64 ((Rng.w .i64 (a0.hi.val.fdiv (2^min ((Rng.w .u64 ((Rng.w .i64 (a1.val-64)).val)).val).toNat 64))).val))⟩))
def zdj:Wide->I64->Wide:=fun a0 a1=>(t_spec_l02Shift a0 a1).get
def t_spec_MulFloor (a0:I64) (a1:I64) (a2:I64):Tr (T2 I64 Bool):=
 .br (!(zV a2 ⟨0,rfl⟩ ⟨126,rfl⟩)) (.leaf ⟨⟨0,rfl⟩,false⟩) (let c4:=F_spec_l02Int (zdj (zbD a0 a1) a2);.leaf ⟨c4.a,c4.b⟩)
def zaz:I64->I64->I64->T2 I64 Bool:=fun a0 a1 a2=>(t_spec_MulFloor a0 a1 a2).get
def zcm (a0:I64) (a1:I64):Tr (T2 I64 Bool):=
 .br (!(zB a0)) (.leaf ⟨⟨0,rfl⟩,false⟩) (.br (!(zB a1)) (.leaf ⟨⟨0,rfl⟩,false⟩) (let c3:=zaz a0 a1 ⟨32,rfl⟩;let c4:=zae c3.a c3.b;.leaf ⟨c4.a,c4.b⟩))
def zG:I64->I64->T2 I64 Bool:=fun a0 a1=>(zcm a0 a1).get
def zd8 (a0:I64) (a1:I64):Tr (T2 I64 Bool):=
 let c2:=zG (Rng.w .i64 (0-a0.val)) a1;.br (!(zB a0)) (.leaf ⟨⟨0,rfl⟩,false⟩) (.br (!c2.b) (.leaf ⟨⟨0,rfl⟩,false⟩) (.leaf ⟨(Rng.w .i64 (0-c2.a.val)),true⟩))
def zS:I64->I64->T2 I64 Bool:=fun a0 a1=>(zd8 a0 a1).get
def t_spec_MulI (a0:Iv) (a1:Iv):Tr (Iv):=
 .br (!(za a0)) (.leaf zn) (.br (!(za a1)) (.leaf zn) (let c5:=zG a0.lo a1.lo;let c6:=zS a0.lo a1.lo;.br (!c5.b) (.leaf zn) (.br (!c6.b) (.leaf zn) (let c11:=zG a0.lo a1.hi;let c12:=zS a0.lo a1.hi;.br (!c11.b) (.leaf zn) (.br (!c12.b) (.leaf zn) (let c17:=zG a0.hi a1.lo;let c18:=zS a0.hi a1.lo;.br (!c17.b) (.leaf zn) (.br (!c18.b) (.leaf zn) (let c23:=zG a0.hi a1.hi;let c24:=zS a0.hi a1.hi;.br (!c23.b) (.leaf zn) (.br (!c24.b) (.leaf zn) (.leaf (zaf (zt (zt (zt (zt ⟨1152921504606846976,rfl⟩ c5.a) c11.a) c17.a) c23.a) (zo (zo (zo (zo ⟨(-1152921504606846976),rfl⟩ c6.a) c12.a) c18.a) c24.a))))))))))))
def zM:Iv->Iv->Iv:=fun a0 a1=>(t_spec_MulI a0 a1).get
def zbt (a0:I64) (a1:I64):Tr (T2 I64 Bool):=
 .br (!(zB a0)) (.leaf ⟨⟨0,rfl⟩,false⟩) (.br (!(zB a1)) (.leaf ⟨⟨0,rfl⟩,false⟩) (.br (a1.val==0) (.leaf ⟨⟨0,rfl⟩,false⟩) (.br (decide (a1.val<0)) (let c5:=zaO (Rng.w .i64 (0-a0.val)) ⟨4294967296,rfl⟩ (Rng.w .i64 (0-a1.val));let c6:=zae c5.a c5.b;.leaf ⟨c6.a,c6.b⟩) (let c7:=zaO a0 ⟨4294967296,rfl⟩ a1;let c8:=zae c7.a c7.b;.leaf ⟨c8.a,c8.b⟩))))
def zD:I64->I64->T2 I64 Bool:=fun a0 a1=>(zbt a0 a1).get
def zc8 (a0:I64) (a1:I64):Tr (T2 I64 Bool):=
 .br (!(zB a0)) (.leaf ⟨⟨0,rfl⟩,false⟩) (let c3:=zD (Rng.w .i64 (0-a0.val)) a1;.leaf ⟨(Rng.w .i64 (0-c3.a.val)),c3.b⟩)
def zN:I64->I64->T2 I64 Bool:=fun a0 a1=>(zc8 a0 a1).get
def zfX (a0:Iv) (a1:Iv):Tr (Iv):=
 .br (!(za a0)) (.leaf zn) (.br (!(za a1)) (.leaf zn) (.br (zaL a1 ⟨0,rfl⟩) (.leaf zn) (let c7:=zD a0.lo a1.lo;let c8:=zN a0.lo a1.lo;.br (!c7.b) (.leaf zn) (.br (!c8.b) (.leaf zn) (let c13:=zD a0.lo a1.hi;let c14:=zN a0.lo a1.hi;.br (!c13.b) (.leaf zn) (.br (!c14.b) (.leaf zn) (let c19:=zD a0.hi a1.lo;let c20:=zN a0.hi a1.lo;.br (!c19.b) (.leaf zn) (.br (!c20.b) (.leaf zn) (let c25:=zD a0.hi a1.hi;let c26:=zN a0.hi a1.hi;.br (!c25.b) (.leaf zn) (.br (!c26.b) (.leaf zn) (.leaf (zaf (zt (zt (zt (zt ⟨1152921504606846976,rfl⟩ c7.a) c13.a) c19.a) c25.a) (zo (zo (zo (zo ⟨(-1152921504606846976),rfl⟩ c8.a) c14.a) c20.a) c26.a)))))))))))))
def zU:Iv->Iv->Iv:=fun a0 a1=>(zfX a0 a1).get
def t_spec_SqrI (a0:Iv):Tr (Iv):=
 .br (!(za a0)) (.leaf zn) (let c3:=zF a0;let c4:=zG c3.a c3.a;let c5:=zS c3.b c3.b;.br (!c4.b) (.leaf zn) (.br (!c5.b) (.leaf zn) (.leaf (zaf c4.a c5.a))))
def zaD:Iv->Iv:=fun a0=>(t_spec_SqrI a0).get
def zdC (a0:I64) (a1:I64):Tr (T2 I64 Bool):=
 .br (decide (a0.val<0)) (.leaf ⟨⟨0,rfl⟩,false⟩) (.br (decide (a1.val<0)) (.leaf ⟨⟨0,rfl⟩,false⟩) (let c1:=zbD a0 a1;.br (G_spec_l02Root c1) (.leaf ⟨(Rng.w .i64 ((zq c1).val)),true⟩) (.bad)))
def zff:I64->I64->T2 I64 Bool:=fun a0 a1=>(zdC a0 a1).get
def G_spec_SqrtFloor:I64->I64->Bool:=fun a0 a1=>(zdC a0 a1).opt.isSome
def zcJ (a0:I64):Tr (T2 I64 Bool):=
 .br (!(zV a0 ⟨0,rfl⟩ ⟨1152921504606846976,rfl⟩)) (.leaf ⟨⟨0,rfl⟩,false⟩) (.br (G_spec_SqrtFloor a0 ⟨4294967296,rfl⟩) (let c2:=zff a0 ⟨4294967296,rfl⟩;.leaf ⟨c2.a,c2.b⟩) (.bad))
def zbC:I64->T2 I64 Bool:=fun a0=>(zcJ a0).get
def zd3:I64->Bool:=fun a0=>(zcJ a0).opt.isSome
def zbJ (a0:I64):Tr (T2 I64 Bool):=
 .br (zd3 a0) (let c1:=zbC a0;.br (!c1.b) (.leaf ⟨⟨0,rfl⟩,false⟩) (.br ((zaz c1.a c1.a ⟨32,rfl⟩).a.val != a0.val) (.leaf ⟨(Rng.w .i64 (c1.a.val+1)),true⟩) (.br ((Rng.w .i64 (zaN .and .i64 (Rng.w .i64 (c1.a.val*c1.a.val)).val 4294967295)).val != 0) (.leaf ⟨(Rng.w .i64 (c1.a.val+1)),true⟩) (.leaf ⟨c1.a,true⟩)))) (.bad)
def zbp:I64->T2 I64 Bool:=fun a0=>(zbJ a0).get
def G_spec_l03SqrtUp:I64->Bool:=fun a0=>(zbJ a0).opt.isSome
def t_spec_SqrtI (a0:Iv):Tr (Iv):=
 .br (!(za a0)) (.leaf zn) (.br (decide (a0.lo.val<0)) (.leaf zn) (.br (zd3 a0.lo) (.br (G_spec_l03SqrtUp a0.hi) (.leaf (zaf (zbC a0.lo).a (zbp a0.hi).a)) (.bad)) (.bad)))
def zbY:Iv->Iv:=fun a0=>(t_spec_SqrtI a0).get
end
end Go.Proofs.YtlolpmmloolieaaGreatDoor.Ev
namespace Go.Proofs.YtlolpmmloolieaaGreatDoor.Ev
open Go
theorem or_zero (x:U64):(Rng.w .u64 (zaN .or .u64 x.val 0)).val=x.val:=by
 have b:=x.ubd
 rw [or_add 0 x.val.toNat (by simp;omega) (by omega) (by decide) (by omega)]
 rw [wu (by omega) (by omega)];omega
theorem shift_ok (w:Wide) (n:I64) (h:0<=n.val/\n.val<=127):(zdD w n).opt=some (zdj w n):=by
 have hw:zal n ⟨0,rfl⟩ ⟨127,rfl⟩=true:=by rw [zct];simpa using h
 have en:(Rng.w .u64 n.val).val=n.val:=wu (by omega) (by omega)
 simp only [zdD,Tr.opt,hw,Bool.not_true,cond_false,zdj,t_spec_l02Shift,Tr.get,en]
 by_cases h64:n.val>=64
 ·have e0:(n.val==0)=false:=by simp;omega
  have e1:decide (n.val<64)=false:=by simp;omega
  have e2:(Rng.w .i64 (n.val-64)).val=n.val-64:=wi (by omega) (by omega)
  have e3:decide ((Rng.w .i64 (n.val-64)).val<0)=false:=by rw [e2];simp;omega
  have e4:(Rng.w .u64 (Rng.w .i64 (n.val-64)).val).val=(Rng.w .i64 (n.val-64)).val:=by rw [e2];exact wu (by omega) (by omega)
  simp only [h64,decide_true,cond_true,e0,e1,e3,cond_false,e4]
 ·have e1:decide (n.val<64)=true:=by simp;omega
  have e2:decide (n.val<0)=false:=by simp;omega
  have e3:(Rng.w .i64 (64-n.val)).val=64-n.val:=wi (by omega) (by omega)
  have e4:decide ((Rng.w .i64 (64-n.val)).val<0)=false:=by rw [e3];simp;omega
  have e5:(Rng.w .u64 (Rng.w .i64 (64-n.val)).val).val=(Rng.w .i64 (64-n.val)).val:=by rw [e3];exact wu (by omega) (by omega)
  simp only [h64,decide_false,cond_false,e1,e2,e4,e5,cond_true]
  by_cases h0:n.val=0
  ·have e0:(n.val==0)=true:=by simp [h0]
   simp only [e0,cond_true]
   rw [h0]
   congr 1
   apply wide_ext
   have bl:=w.lo.ubd
   have k1:min (Int.toNat 0) 64=0:=by rfl
   have k2:min (Rng.w .i64 (64-0)).val.toNat 64=64:=by rfl
   have k3:(2:Int)^64=18446744073709551616:=by decide
   have k4:(Rng.w .u64 (w.lo.val.fdiv (2^0)))=w.lo:=by rw [show (2:Int)^0=1 by rfl,Int.fdiv_one];exact Rng.w_val _
   have k5:(Rng.w .u64 ((Rng.w .u64 w.hi.val).val*18446744073709551616)).val=0:=by rw [zaJ];omega
   have k6:Rng.w .i64 (w.hi.val.fdiv (2^0))=w.hi:=by rw [show (2:Int)^0=1 by rfl,Int.fdiv_one];exact Rng.w_val _
   simp only [k1,k2,k3,k4,k5,k6,wv,or_zero]
  ·have e0:(n.val==0)=false:=by simp [h0]
   simp only [e0,cond_false]
theorem shift_F (w:Wide) (n:I64) (h:0<=n.val/\n.val<=127):F_impl_WideShift w n=zdj w n:=Tr.zaB (shift_ok w n h)
theorem shift_G (w:Wide) (n:I64) (h:0<=n.val/\n.val<=127):zfd w n=true:=by unfold zfd;rw [shift_ok w n h];rfl
theorem mulfloor_ok (a b n:I64):(zdg a b n).opt=some (zaz a b n):=by
 simp only [zdg,Tr.opt,zaz,t_spec_MulFloor,Tr.get,zct,zed,mul_impl,mul_spec,int_impl,int_spec]
 by_cases h:0<=n.val/\n.val<=126
 ·have h':0<=n.val/\n.val<=127:=by omega
  simp only [h,and_self,decide_true,Bool.not_true,cond_false,shift_F _ _ h',shift_G _ _ h',cond_true]
 ·simp only [h,decide_false,Bool.not_false,cond_true]
theorem mulfloor_F (a b n:I64):zcx a b n=zaz a b n:=Tr.zaB (mulfloor_ok a b n)
theorem mulfloor_G (a b n:I64):zfN a b n=true:=by unfold zfN;rw [mulfloor_ok];rfl
theorem okfix_eq (a:I64):zaC a=zB a:=by
 simp only [zaC,zeb,zB,zd7,Tr.get,zct,zed]
theorem muldown_ok (a b:I64):(zeR a b).opt=some (zG a b):=by
 simp only [zeR,Tr.opt,zG,zcm,Tr.get,okfix_eq,mulfloor_F,mulfloor_G,end_eq,cond_true]
 cases zB a<;>cases zB b<;>rfl
theorem muldown_F (a b:I64):zcj a b=zG a b:=Tr.zaB (muldown_ok a b)
theorem muldown_G (a b:I64):zbS a b=true:=by unfold zbS;rw [muldown_ok];rfl
theorem end_cases (a:I64) (b:Bool):zae a b=⟨⟨0,rfl⟩,false⟩\/(zae a b=⟨a,true⟩/\zB a=true):=by
 simp only [zae,zce,Tr.get]
 cases b
 ·left;rfl
 ·cases h:zB a
  ·left;rfl
  ·right;exact ⟨rfl,rfl⟩
theorem zdw (a b:I64):zG a b=⟨⟨0,rfl⟩,false⟩\/∃c,zG a b=⟨c,true⟩/\zB c=true:=by
 simp only [zG,zcm,Tr.get]
 cases zB a
 ·left;rfl
 ·cases zB b
  ·left;rfl
  ·simp only [Bool.not_true,cond_false]
   rcases end_cases (zaz a b ⟨32,rfl⟩).a (zaz a b ⟨32,rfl⟩).b with h|⟨h,k⟩
   ·left;rw [h]
   ·right;exact ⟨_,h,k⟩
theorem muldown_bad (a b:I64) (h:zB b=false):zG a b=⟨⟨0,rfl⟩,false⟩:=by
 simp only [zG,zcm,Tr.get,h]
 cases zB a<;>rfl
theorem mulup_ok (a b:I64):(t_impl_MulUp a b).opt=some (zS a b):=by
 simp only [t_impl_MulUp,Tr.opt,zS,zd8,Tr.get,okfix_eq,muldown_F,muldown_G,cond_true]
 cases zB a
 ·rfl
 ·simp only [Bool.not_true,cond_false]
  cases hb:zB b
  ·rw [muldown_bad _ _ hb];rfl
  ·simp only [Bool.not_true,cond_false]
   rcases zdw (.w .i64 (0-a.val)) b with h|⟨c,h,_⟩<;>rw [h]<;>rfl
theorem mulup_F (a b:I64):zel a b=zS a b:=Tr.zaB (mulup_ok a b)
theorem mulup_G (a b:I64):zdr a b=true:=by unfold zdr;rw [mulup_ok];rfl
theorem divdown_F (a b:I64):zbU a b=zD a b:=by
 simp only [zbU,t_impl_DivDown,zD,zbt,Tr.get,okfix_eq,md_F_impl,zdH,end_eq]
 cases zB a
 ·rfl
 ·cases zB b
  ·rfl
  ·simp only [Bool.not_true,cond_false]
   by_cases h0:b.val=0
   ·have e0:(b.val==0)=true:=by simp [h0]
    have e1:decide (b.val<0)=false:=by simp [h0]
    simp only [e0,e1,cond_true,cond_false,MD]
    rw [if_neg (by omega)]
    simp only [end_no]
   ·have e0:(b.val==0)=false:=by simp [h0]
    simp only [e0,cond_false]
theorem zdy (a b:I64):zD a b=⟨⟨0,rfl⟩,false⟩\/∃c,zD a b=⟨c,true⟩/\zB c=true:=by
 simp only [zD,zbt,Tr.get,zdH]
 cases zB a
 ·left;rfl
 ·cases zB b
  ·left;rfl
  ·simp only [Bool.not_true,cond_false]
   cases (b.val==0)
   ·simp only [cond_false]
    cases decide (b.val<0)
    ·simp only [cond_false]
     rcases end_cases (MD a ⟨4294967296,rfl⟩ b).a (MD a ⟨4294967296,rfl⟩ b).b with h|⟨h,k⟩
     ·left;rw [h]
     ·right;exact ⟨_,h,k⟩
    ·simp only [cond_true]
     rcases end_cases (MD (.w .i64 (0-a.val)) ⟨4294967296,rfl⟩ (.w .i64 (0-b.val))).a (MD (.w .i64 (0-a.val)) ⟨4294967296,rfl⟩ (.w .i64 (0-b.val))).b with h|⟨h,k⟩
     ·left;rw [h]
     ·right;exact ⟨_,h,k⟩
   ·left;rfl
theorem divdown_bad (a b:I64) (h:zB b=false):zD a b=⟨⟨0,rfl⟩,false⟩:=by
 simp only [zD,zbt,Tr.get,h]
 cases zB a<;>rfl
theorem divup_F (a b:I64):zdu a b=zN a b:=by
 simp only [zdu,t_impl_DivUp,zN,zc8,Tr.get,okfix_eq,divdown_F]
 cases zB a
 ·rfl
 ·simp only [Bool.not_true,cond_false]
  cases hb:zB b
  ·rw [divdown_bad _ _ hb];rfl
  ·rfl
theorem min_eq (a b:I64):mn a b=zt a b:=by
 simp only [mn,zt,zeo,Tr.get]
 by_cases h:b.val<a.val
 ·have:decide (a.val<b.val)=false:=by simp;omega
  simp only [h,decide_true,cond_true,this,cond_false]
 ·by_cases h':a.val<b.val
  ·simp only [h,h',decide_true,decide_false,cond_true,cond_false]
  ·simp only [h,h',decide_false,cond_false];exact rext (by omega)
theorem max_eq (a b:I64):mx a b=zo a b:=by
 simp only [mx,zo,zep,Tr.get]
 by_cases h:b.val>a.val
 ·have:decide (a.val>b.val)=false:=by simp;omega
  simp only [h,decide_true,cond_true,this,cond_false]
 ·by_cases h':a.val>b.val
  ·simp only [h,h',decide_true,decide_false,cond_true,cond_false]
  ·simp only [h,h',decide_false,cond_false];exact rext (by omega)
theorem ok_bd {a:I64} (h:zB a=true): -1152921504606846976<=a.val/\a.val<=1152921504606846976:=by
 simpa [zB,zd7,Tr.get,zed] using h
theorem min_top {a:I64} (h:zB a=true):zt ⟨1152921504606846976,rfl⟩ a=a:=by
 have:=ok_bd h
 simp only [zt,zeo,Tr.get]
 by_cases h:(1152921504606846976:Int)<a.val
 ·omega
 ·simp only [h,decide_false,cond_false]
theorem max_top {a:I64} (h:zB a=true):zo ⟨-1152921504606846976,rfl⟩ a=a:=by
 have:=ok_bd h
 simp only [zo,zep,Tr.get]
 by_cases h:(-1152921504606846976:Int)>a.val
 ·omega
 ·simp only [h,decide_false,cond_false]
theorem min_self (a:I64):zt a a=a:=by
 simp only [zt,zeo,Tr.get];cases decide (a.val<a.val)<;>rfl
theorem max_self (a:I64):zo a a=a:=by
 simp only [zo,zep,Tr.get];cases decide (a.val>a.val)<;>rfl
theorem areb_eq (a b:Iv):za0 a b=(za a&&za b):=by
 simp only [za0,zet,Tr.get,valid_eq]
 cases za a<;>rfl
theorem ok_neg {c:I64} (h:zB c=true):zB (.w .i64 (0-c.val))=true:=by
 have:=ok_bd h
 simp only [zB,zd7,Tr.get,zed]
 rw [wi (by omega) (by omega)]
 simp;omega
theorem mulup_cases (a b:I64):(zS a b).b=false\/∃c,zS a b=⟨c,true⟩/\zB c=true:=by
 simp only [zS,zd8,Tr.get]
 cases zB a
 ·left;rfl
 ·rcases zdw (.w .i64 (0-a.val)) b with h|⟨c,h,k⟩
  ·left;rw [h];rfl
  ·right;rw [h];exact ⟨_,rfl,ok_neg k⟩
theorem divup_cases (a b:I64):(zN a b).b=false\/∃c,zN a b=⟨c,true⟩/\zB c=true:=by
 simp only [zN,zc8,Tr.get]
 cases zB a
 ·left;rfl
 ·rcases zdy (.w .i64 (0-a.val)) b with h|⟨c,h,k⟩
  ·left;rw [h];rfl
  ·right;rw [h];exact ⟨_,rfl,ok_neg k⟩
theorem mulI_ok (a b:Iv):(t_impl_MulI a b).opt=some (zM a b):=by
 simp only [t_impl_MulI,Tr.opt,zM,t_spec_MulI,Tr.get,areb_eq,muldown_F,muldown_G,mulup_F,mulup_G,cond_true,zb3,zfq,min_eq,max_eq]
 cases za a
 ·rfl
 cases za b
 ·rfl
 simp only [Bool.and_self,Bool.not_true,cond_false]
 rcases zdw a.lo b.lo with h|⟨c1,h,k1⟩
 ·rw [h];rfl
 rw [h]
 rcases mulup_cases a.lo b.lo with h|⟨d1,h,l1⟩
 ·simp only [h,Bool.not_true,Bool.not_false,cond_true,cond_false]
 rw [h]
 rcases zdw a.lo b.hi with h|⟨c2,h,k2⟩
 ·rw [h];rfl
 rw [h]
 rcases mulup_cases a.lo b.hi with h|⟨d2,h,l2⟩
 ·simp only [h,Bool.not_true,Bool.not_false,cond_true,cond_false]
 rw [h]
 rcases zdw a.hi b.lo with h|⟨c3,h,k3⟩
 ·rw [h];rfl
 rw [h]
 rcases mulup_cases a.hi b.lo with h|⟨d3,h,l3⟩
 ·simp only [h,Bool.not_true,Bool.not_false,cond_true,cond_false]
 rw [h]
 rcases zdw a.hi b.hi with h|⟨c4,h,k4⟩
 ·rw [h];rfl
 rw [h]
 rcases mulup_cases a.hi b.hi with h|⟨d4,h,l4⟩
 ·simp only [h,Bool.not_true,Bool.not_false,cond_true,cond_false]
 rw [h]
 simp only [Bool.not_true,cond_false,min_self,max_self,min_top k1,max_top l1]
theorem mulI_F (a b:Iv):zar a b=zM a b:=Tr.zaB (mulI_ok a b)
theorem has_eq (a:Iv) (n:I64) (h:za a=true):F_impl_HasI a n=zaL a n:=by
 simp only [F_impl_HasI,t_impl_HasI,zaL,zcI,Tr.get,zah,zcg,valid_eq,h,Bool.not_true,cond_false,zct,zed]
theorem divI_F (a b:Iv):zbs a b=zU a b:=by
 simp only [zbs,t_impl_DivI,zU,zfX,Tr.get,areb_eq,divdown_F,divup_F,zb3,zfq,min_eq,max_eq]
 cases ha:za a
 ·rfl
 cases hb:za b
 ·rfl
 simp only [Bool.and_self,Bool.not_true,cond_false,has_eq b _ hb]
 cases zaL b ⟨0,rfl⟩
 case true=>rfl
 simp only [cond_false]
 rcases zdy a.lo b.lo with h|⟨c1,h,k1⟩
 ·rw [h];rfl
 rw [h]
 rcases divup_cases a.lo b.lo with h|⟨d1,h,l1⟩
 ·simp only [h,Bool.not_true,Bool.not_false,cond_true,cond_false]
 rw [h]
 rcases zdy a.lo b.hi with h|⟨c2,h,k2⟩
 ·rw [h];rfl
 rw [h]
 rcases divup_cases a.lo b.hi with h|⟨d2,h,l2⟩
 ·simp only [h,Bool.not_true,Bool.not_false,cond_true,cond_false]
 rw [h]
 rcases zdy a.hi b.lo with h|⟨c3,h,k3⟩
 ·rw [h];rfl
 rw [h]
 rcases divup_cases a.hi b.lo with h|⟨d3,h,l3⟩
 ·simp only [h,Bool.not_true,Bool.not_false,cond_true,cond_false]
 rw [h]
 rcases zdy a.hi b.hi with h|⟨c4,h,k4⟩
 ·rw [h];rfl
 rw [h]
 rcases divup_cases a.hi b.hi with h|⟨d4,h,l4⟩
 ·simp only [h,Bool.not_true,Bool.not_false,cond_true,cond_false]
 rw [h]
 simp only [Bool.not_true,cond_false,cond_true,min_self,max_self,min_top k1,max_top l1]
theorem sqrI_ok (a:Iv):(t_impl_SqrI a).opt=some (zaD a):=by
 simp only [t_impl_SqrI,Tr.opt,zaD,t_spec_SqrI,Tr.get,muldown_F,muldown_G,mulup_F,mulup_G,cond_true,zb3,zfq,zah,zcg,valid_eq]
 cases h:za a
 ·rfl
 simp only [Bool.not_true,cond_false]
 have e:zc2 a=⟨(zF a).a,(zF a).b⟩:=by
  simp only [zc2,t_impl_AbsI,zF,zcU,Tr.get,zah,zcg,valid_eq,h,Bool.not_true,cond_false,has_eq a _ h,max_eq,min_eq,zfr,t_impl_abs]
  cases zaL a ⟨0,rfl⟩<;>rfl
 rw [e]
 cases (zG (zF a).a (zF a).a).b<;>cases (zS (zF a).b (zF a).b).b<;>rfl
theorem sqrI_F (a:Iv):zek a=zaD a:=Tr.zaB (sqrI_ok a)
theorem tt_mulfloor (a b n:I64):(zdg a b n).opt=some (zcx a b n):=opt_self (mulfloor_ok a b n)
theorem tt_mulI (a b:Iv):(t_impl_MulI a b).opt=some (zar a b):=opt_self (mulI_ok a b)
theorem tt_sqrI (a:Iv):(t_impl_SqrI a).opt=some (zek a):=opt_self (sqrI_ok a)
end Go.Proofs.YtlolpmmloolieaaGreatDoor.Ev
namespace Go.Proofs.YtlolpmmloolieaaGreatDoor.Ev
open Go
theorem root_loop (hi:I64) (lo:U64):∀(k m:Nat) (r:U64) (i:I64),k<=64->i.val=(k:Int)-1->
  ∃q:U64,(Lf zbb (k+1+m) ⟨r,i,hi,lo⟩).opt=some ⟨q,.w .i64 (-1),hi,lo⟩/\(Lf zco (k+1+m) ⟨r,i,hi,lo⟩).opt=some ⟨q,.w .i64 (-1),hi,lo⟩:=by
 intro k
 induction k with
 | zero=>
  intro m r i _ hi'
  have h0:decide (i.val>=0)=false:=by simp;omega
  have e:i= .w .i64 (-1):=rext (by rw [wi (by omega) (by omega)];omega)
  refine ⟨r,?_,?_⟩
  ·simp only [Lf,zbb,h0,Tr.bind,Tr.opt,cond_false,Nat.zero_add,Nat.add_comm 1 m,<- e]
  ·simp only [Lf,zco,h0,Tr.bind,Tr.opt,cond_false,Nat.zero_add,Nat.add_comm 1 m,<- e]
 | succ k ih=>
  intro m r i hk hi'
  have h0:decide (i.val>=0)=true:=by simp;omega
  have h1:decide (i.val<0)=false:=by simp;omega
  have en:(Rng.w .u64 i.val).val=i.val:=wu (by omega) (by omega)
  have e1:(Rng.w .i64 (i.val-1)).val=(k:Int)-1:=by rw [wi (by omega) (by omega)];omega
  have hfuel:k+1+1+m=(k+1+m)+1:=by omega
  obtain ⟨q1,a1,b1⟩:=ih m (Rng.w .u64 (zaN .or .u64 r.val (Rng.w .u64 (1*(2^min (i.val).toNat 64))).val)) (.w .i64 (i.val-1)) (by omega) e1
  obtain ⟨q2,a2,b2⟩:=ih m r (.w .i64 (i.val-1)) (by omega) e1
  rw [hfuel]
  simp only [Lf,zbb,zco,h0,h1,en,times_spec,times_impl,Tr.bind,Tr.opt,cond_true,cond_false,a1,b1,a2,b2]
  generalize decide ((Rng.w .u64 _).val<_)=c1
  generalize ((Rng.w .u64 _).val==_)=c2
  generalize decide ((Rng.w .u64 _).val<=_)=c3
  cases c1
  ·cases c2
   ·exact ⟨q2,rfl,rfl⟩
   ·cases c3
    ·exact ⟨q2,rfl,rfl⟩
    ·exact ⟨q1,rfl,rfl⟩
  ·exact ⟨q1,rfl,rfl⟩
theorem root_ok (w:Wide):(zbQ w).opt=some (zq w)/\(zdb w).opt=some (bif decide (w.hi.val<0) then ⟨⟨0,rfl⟩,false⟩ else ⟨zq w,true⟩):=by
 obtain ⟨q,h1,h2⟩:=root_loop w.hi w.lo 64 1 ⟨0,rfl⟩ ⟨63,rfl⟩ (by omega) (by rfl)
 have hf:(64+1+1:Nat)=66:=rfl
 rw [hf] at h1 h2
 have g1:zcE ⟨⟨0,rfl⟩,⟨63,rfl⟩,w.hi,w.lo⟩=true:=by unfold zcE;rw [h1];rfl
 have g2:zez ⟨⟨0,rfl⟩,⟨63,rfl⟩,w.hi,w.lo⟩=true:=by unfold zez;rw [h2];rfl
 have l1:zfb ⟨⟨0,rfl⟩,⟨63,rfl⟩,w.hi,w.lo⟩=_:=Tr.zaB h1
 have l2:L_impl_WideSqrt_5 ⟨⟨0,rfl⟩,⟨63,rfl⟩,w.hi,w.lo⟩=_:=Tr.zaB h2
 have k1:(zbQ w).opt=some q:=by simp only [zbQ,Tr.opt,g1,l1,cond_true]
 have k2:zq w=q:=Tr.zaB k1
 refine ⟨by rw [k1,k2],?_⟩
 simp only [zdb,Tr.opt,g2,l2,cond_true,k2]
 cases decide (w.hi.val<0)<;>rfl
theorem root_G (w:Wide):G_spec_l02Root w=true:=by unfold G_spec_l02Root;rw [(root_ok w).1];rfl
theorem wsqrt_G (w:Wide):zfL w=true:=by unfold zfL;rw [(root_ok w).2];rfl
theorem tt_root_spec (w:Wide):(zbQ w).opt=some (zq w):=(root_ok w).1
theorem tt_wsqrt_impl (w:Wide):(zdb w).opt=some (zb0 w):=opt_self (root_ok w).2
theorem tt_sf_spec (a b:I64):(zdC a b).opt=some (zff a b):=zeU (by
 simp only [zdC,Tr.opt,root_G,cond_true]
 cases decide (a.val<0)<;>cases decide (b.val<0)<;>rfl)
theorem tt_sf_impl (a b:I64):(zcC a b).opt=some (zdL a b):=zeU (by
 simp only [zcC,Tr.opt,wsqrt_G,cond_true]
 cases decide (a.val<0)<;>cases decide (b.val<0)<;>rfl)
theorem sf_G_spec (a b:I64):G_spec_SqrtFloor a b=true:=by unfold G_spec_SqrtFloor;rw [tt_sf_spec];rfl
theorem sf_G_impl (a b:I64):zfe a b=true:=by unfold zfe;rw [tt_sf_impl];rfl
theorem tt_sd_spec (a:I64):(zcJ a).opt=some (zbC a):=zeU (by
 simp only [zcJ,Tr.opt,sf_G_spec,cond_true]
 cases zV a ⟨0,rfl⟩ ⟨1152921504606846976,rfl⟩<;>rfl)
theorem tt_sd_impl (a:I64):(zde a).opt=some (zdl a):=zeU (by
 simp only [zde,Tr.opt,sf_G_impl,cond_true]
 cases zaC a<;>rfl)
theorem sd_G_spec (a:I64):zd3 a=true:=by unfold zd3;rw [tt_sd_spec];rfl
theorem sd_G_impl (a:I64):zee a=true:=by unfold zee;rw [tt_sd_impl];rfl
theorem cond_some {γ:Type} (c:Bool) (x y:Option γ) (hx:x.isSome=true) (hy:y.isSome=true):(bif c then x else y).isSome=true:=by cases c<;>assumption
theorem tt_su_spec (a:I64):(zbJ a).opt=some (zbp a):=zeU (by
 simp only [zbJ,Tr.opt,sd_G_spec,cond_true]
 repeat' (first|apply cond_some|rfl))
theorem tt_su_impl (a:I64):(zdv a).opt=some (zeE a):=zeU (by
 simp only [zdv,Tr.opt,sd_G_impl,cond_true]
 repeat' (first|apply cond_some|rfl))
theorem su_G_spec (a:I64):G_spec_l03SqrtUp a=true:=by unfold G_spec_l03SqrtUp;rw [tt_su_spec];rfl
theorem su_G_impl (a:I64):G_impl_SqrtUp a=true:=by unfold G_impl_SqrtUp;rw [tt_su_impl];rfl
theorem tt_sqrtI_impl (a:Iv):(t_impl_SqrtI a).opt=some (F_impl_SqrtI a):=zeU (by
 simp only [t_impl_SqrtI,Tr.opt,sd_G_impl,su_G_impl,cond_true]
 repeat' (first|apply cond_some|rfl))
end Go.Proofs.YtlolpmmloolieaaGreatDoor.Ev
namespace Go.Proofs.YtlolpmmloolieaaGreatDoor.Ev
open Go Go.RowKit
set_option maxRecDepth 100000
section
variable [Amb]
def ET_spec_l02Root:Ent Tryz.prog:= .of1 Tb48 B48 (fun _=>true) zq fun a0 _=>(r_spec_l02Root a0).trans (tt_root_spec a0)
def ET_impl_WideSqrt:Ent Tryz.prog:= .of1 Tb102 B102 (fun _=>true) zb0 fun a0 _=>(r_impl_WideSqrt a0).trans (tt_wsqrt_impl a0)
def ET_impl_SqrtI:Ent Tryz.prog:= .of1 Tb112 B112 (fun _=>true) F_impl_SqrtI fun a0 _=>(r_impl_SqrtI a0).trans (tt_sqrtI_impl a0)
def ET_impl_MulFloor:Ent Tryz.prog:= .of3 Tb106 B106 (fun _ _ _=>true) zcx fun a0 a1 a2 _=>(r_impl_MulFloor a0 a1 a2).trans (tt_mulfloor a0 a1 a2)
def zem:Ent Tryz.prog:= .of2 Tb25 B25 (fun _ _=>true) zar fun a0 a1 _=>(r_impl_MulI a0 a1).trans (tt_mulI a0 a1)
def ET_impl_SqrI:Ent Tryz.prog:= .of1 Tb37 B37 (fun _=>true) zek fun a0 _=>(r_impl_SqrI a0).trans (tt_sqrI a0)
def B134:Bod Tryz.prog:=⟨134,Tryz.f134,Tryz.f134.body.getD .skip,Tryz.func134,by kernel_rfl,by kernel_rfl,zai.no _ _⟩
def Tb134_p:Tb Tryz.prog:= {T:= [Y2,Y33],mix:=mix,Es:= [zaq,zbf,ET_impl_MulFloor],Bs:= [],d:=1}
def zdO (a0:I64):Tr (Iv):=
 .br (!(zal a0 ⟨(-4096),rfl⟩ ⟨4096,rfl⟩)) (.leaf zJ) (.br (decide (a0.val<0)) (.bad) (.br (a0.val==0) (.leaf ⟨⟨0,rfl⟩,⟨0,rfl⟩⟩) (let c4:=zcx a0 ⟨7244019458077122842,rfl⟩ ⟨30,rfl⟩;.leaf ⟨c4.a,(Rng.w .i64 (c4.a.val+1))⟩)))
theorem r_impl_TurnI_p (a0:I64):Tb134_p.run B134 [enc a0] (Iv)=(zdO a0).opt:=by kernel_rfl
def F_impl_TurnI_p:I64->Iv:=fun a0=>(zdO a0).get
def G_impl_TurnI_p:I64->Bool:=fun a0=>(zdO a0).opt.isSome
def E_impl_TurnI_p:Ent Tryz.prog:= .of1 Tb134_p B134 G_impl_TurnI_p F_impl_TurnI_p fun a0 h=>(r_impl_TurnI_p a0).trans (Tr.get_some h)
def Tb134:Tb Tryz.prog:= {T:= [Y2,Y33],mix:=mix,Es:= [zaq,E_impl_NegI,zbf,ET_impl_MulFloor,E_impl_TurnI_p],Bs:= [],d:=1}
def zdp (a0:I64):Tr (Iv):=
 .br (!(zal a0 ⟨(-4096),rfl⟩ ⟨4096,rfl⟩)) (.leaf zJ) (.br (decide (a0.val<0)) (let c3:=(Rng.w .i64 (0-a0.val));.br (G_impl_TurnI_p c3) (.leaf (zdA (F_impl_TurnI_p c3))) (.bad)) (.br (a0.val==0) (.leaf ⟨⟨0,rfl⟩,⟨0,rfl⟩⟩) (let c6:=zcx a0 ⟨7244019458077122842,rfl⟩ ⟨30,rfl⟩;.leaf ⟨c6.a,(Rng.w .i64 (c6.a.val+1))⟩)))
theorem r_impl_TurnI (a0:I64):Tb134.run B134 [enc a0] (Iv)=(zdp a0).opt:=by kernel_rfl
def zdt:I64->Iv:=fun a0=>(zdp a0).get
def B131:Bod Tryz.prog:=⟨131,Tryz.f131,Tryz.f131.body.getD .skip,Tryz.func131,by kernel_rfl,by kernel_rfl,zai.no _ _⟩
def Tb131:Tb Tryz.prog:= {T:= [],mix:=mix,Es:= [zbf],Bs:= [],d:=1}
def t_impl_isAngle (a0:I64):Tr (Bool):=
 .leaf (zal a0 ⟨(-1099511627776),rfl⟩ ⟨1099511627776,rfl⟩)
theorem r_impl_isAngle (a0:I64):Tb131.run B131 [enc a0] (Bool)=(t_impl_isAngle a0).opt:=by kernel_rfl
def zci:I64->Bool:=fun a0=>(t_impl_isAngle a0).get
theorem u_impl_isAngle (a0:I64):(t_impl_isAngle a0).opt=some (zci a0):=Tr.zW (by kernel_rfl)
def E_impl_isAngle:Ent Tryz.prog:= .of1 Tb131 B131 (fun _=>true) zci fun a0 _=>(r_impl_isAngle a0).trans (u_impl_isAngle a0)
def B132:Bod Tryz.prog:=⟨132,Tryz.f132,Tryz.f132.body.getD .skip,Tryz.func132,by kernel_rfl,by kernel_rfl,zai.no _ _⟩
def Tb132:Tb Tryz.prog:= {T:= [],mix:=mix,Es:= [E_impl_isAngle],Bs:= [],d:=1}
def zdF (a0:I64):Tr (I64):=
 .br (!(zci a0)) (.leaf ⟨0,rfl⟩) (let c3:=(Rng.w .i64 ((Rng.w .i64 (a0.val+3373259426)).val.tdiv 6746518852));.br (decide ((Rng.w .i64 (c3.val*6746518852)).val>(Rng.w .i64 (a0.val+3373259426)).val)) (.leaf (Rng.w .i64 (c3.val-1))) (.leaf c3))
theorem r_impl_QuarterOf (a0:I64):Tb132.run B132 [enc a0] (I64)=(zdF a0).opt:=by kernel_rfl
def zbr:I64->I64:=fun a0=>(zdF a0).get
theorem u_impl_QuarterOf (a0:I64):(zdF a0).opt=some (zbr a0):=Tr.zW (by kernel_rfl)
def E_impl_QuarterOf:Ent Tryz.prog:= .of1 Tb132 B132 (fun _=>true) zbr fun a0 _=>(r_impl_QuarterOf a0).trans (u_impl_QuarterOf a0)
def B44:Bod Tryz.prog:=⟨44,Tryz.f44,Tryz.f44.body.getD .skip,Tryz.func44,by kernel_rfl,by kernel_rfl,zai.no _ _⟩
def Tb44:Tb Tryz.prog:= {T:= [Y2,Y33],mix:=mix,Es:= [E_spec_l04Ok,zfR,E_spec_l00Max,E_spec_l00Min],Bs:= [],d:=1}
def zdo (a0:Iv) (a1:Iv):Tr (T2 Iv Bool):=
 .br (!(za a0)) (.br (!(za a1)) (.leaf ⟨zn,true⟩) (.br (!(za a0)) (.leaf ⟨a1,true⟩) (.br (!(za a1)) (.leaf ⟨a0,true⟩) (let c6:=zo a0.lo a1.lo;let c7:=zt a0.hi a1.hi;.br (decide (c6.val>c7.val)) (.leaf ⟨⟨⟨0,rfl⟩,⟨0,rfl⟩⟩,false⟩) (.leaf ⟨⟨c6,c7⟩,true⟩))))) (.br (!(za a0)) (.leaf ⟨a1,true⟩) (.br (!(za a1)) (.leaf ⟨a0,true⟩) (let c11:=zo a0.lo a1.lo;let c12:=zt a0.hi a1.hi;.br (decide (c11.val>c12.val)) (.leaf ⟨⟨⟨0,rfl⟩,⟨0,rfl⟩⟩,false⟩) (.leaf ⟨⟨c11,c12⟩,true⟩))))
theorem r_spec_MeetI (a0:Iv) (a1:Iv):Tb44.run B44 [enc a0,enc a1] (T2 Iv Bool)=(zdo a0 a1).opt:=by kernel_rfl
def zbZ:Iv->Iv->T2 Iv Bool:=fun a0 a1=>(zdo a0 a1).get
theorem u_spec_MeetI (a0:Iv) (a1:Iv):(zdo a0 a1).opt=some (zbZ a0 a1):=Tr.zW (by kernel_rfl)
def E_spec_MeetI:Ent Tryz.prog:= .of2 Tb44 B44 (fun _ _=>true) zbZ fun a0 a1 _=>(r_spec_MeetI a0 a1).trans (u_spec_MeetI a0 a1)
def B13:Bod Tryz.prog:=⟨13,Tryz.f13,Tryz.f13.body.getD .skip,Tryz.func13,by kernel_rfl,by kernel_rfl,zai.no _ _⟩
def Tb13:Tb Tryz.prog:= {T:= [Y2,Y33],mix:=mix,Es:= [E_spec_MeetI],Bs:= [],d:=1}
def zc9 (a0:Iv) (a1:Iv):Tr (Bool):=
 .leaf (zbZ a0 a1).b
theorem r_spec_OverlapI (a0:Iv) (a1:Iv):Tb13.run B13 [enc a0,enc a1] (Bool)=(zc9 a0 a1).opt:=by kernel_rfl
def zat:Iv->Iv->Bool:=fun a0 a1=>(zc9 a0 a1).get
theorem u_spec_OverlapI (a0:Iv) (a1:Iv):(zc9 a0 a1).opt=some (zat a0 a1):=Tr.zW (by kernel_rfl)
def E_spec_OverlapI:Ent Tryz.prog:= .of2 Tb13 B13 (fun _ _=>true) zat fun a0 a1 _=>(r_spec_OverlapI a0 a1).trans (u_spec_OverlapI a0 a1)
def B161:Bod Tryz.prog:=⟨161,Tryz.f161,Tryz.f161.body.getD .skip,Tryz.func161,by kernel_rfl,by kernel_rfl,zai.no _ _⟩
def Tb161:Tb Tryz.prog:= {T:= [Y2,Y33],mix:=mix,Es:= [zcl,zaq],Bs:= [],d:=1}
def t_impl_MeetI (a0:Iv) (a1:Iv):Tr (T2 Iv Bool):=
 .br (zah a0) (.br (zah a1) (.leaf ⟨zJ,true⟩) (.br (zah a0) (.leaf ⟨a1,true⟩) (.br (zah a1) (.leaf ⟨a0,true⟩) (.br (decide ((mx a0.lo a1.lo).val>(mn a0.hi a1.hi).val)) (.leaf ⟨⟨⟨0,rfl⟩,⟨0,rfl⟩⟩,false⟩) (.leaf ⟨⟨(mx a0.lo a1.lo),(mn a0.hi a1.hi)⟩,true⟩))))) (.br (zah a0) (.leaf ⟨a1,true⟩) (.br (zah a1) (.leaf ⟨a0,true⟩) (.br (decide ((mx a0.lo a1.lo).val>(mn a0.hi a1.hi).val)) (.leaf ⟨⟨⟨0,rfl⟩,⟨0,rfl⟩⟩,false⟩) (.leaf ⟨⟨(mx a0.lo a1.lo),(mn a0.hi a1.hi)⟩,true⟩))))
theorem r_impl_MeetI (a0:Iv) (a1:Iv):Tb161.run B161 [enc a0,enc a1] (T2 Iv Bool)=(t_impl_MeetI a0 a1).opt:=by kernel_rfl
def zfs:Iv->Iv->T2 Iv Bool:=fun a0 a1=>(t_impl_MeetI a0 a1).get
theorem u_impl_MeetI (a0:Iv) (a1:Iv):(t_impl_MeetI a0 a1).opt=some (zfs a0 a1):=Tr.zW (by kernel_rfl)
def E_impl_MeetI:Ent Tryz.prog:= .of2 Tb161 B161 (fun _ _=>true) zfs fun a0 a1 _=>(r_impl_MeetI a0 a1).trans (u_impl_MeetI a0 a1)
def B138:Bod Tryz.prog:=⟨138,Tryz.f138,Tryz.f138.body.getD .skip,Tryz.func138,by kernel_rfl,by kernel_rfl,zai.no _ _⟩
def Tb138:Tb Tryz.prog:= {T:= [Y2,Y33],mix:=mix,Es:= [E_impl_MeetI],Bs:= [],d:=1}
def zfD (a0:Iv) (a1:Iv):Tr (Bool):=
 .leaf (zfs a0 a1).b
theorem r_impl_OverlapI (a0:Iv) (a1:Iv):Tb138.run B138 [enc a0,enc a1] (Bool)=(zfD a0 a1).opt:=by kernel_rfl
def zb1:Iv->Iv->Bool:=fun a0 a1=>(zfD a0 a1).get
theorem u_impl_OverlapI (a0:Iv) (a1:Iv):(zfD a0 a1).opt=some (zb1 a0 a1):=Tr.zW (by kernel_rfl)
def E_impl_OverlapI:Ent Tryz.prog:= .of2 Tb138 B138 (fun _ _=>true) zb1 fun a0 a1 _=>(r_impl_OverlapI a0 a1).trans (u_impl_OverlapI a0 a1)
def B162:Bod Tryz.prog:=⟨162,Tryz.f162,Tryz.f162.body.getD .skip,Tryz.func162,by kernel_rfl,by kernel_rfl,zai.no _ _⟩
def Tb162:Tb Tryz.prog:= {T:= [Y2,Y33],mix:=mix,Es:= [zcl],Bs:= [],d:=1}
def t_impl_InsideI (a0:Iv) (a1:Iv):Tr (Bool):=
 .br (zah a0) (.leaf (zah a1)) (.br (zah a1) (.leaf (zah a1)) (.br (decide (a1.lo.val<=a0.lo.val)) (.leaf (decide (a0.hi.val<=a1.hi.val))) (.leaf false)))
theorem r_impl_InsideI (a0:Iv) (a1:Iv):Tb162.run B162 [enc a0,enc a1] (Bool)=(t_impl_InsideI a0 a1).opt:=by kernel_rfl
def zdW:Iv->Iv->Bool:=fun a0 a1=>(t_impl_InsideI a0 a1).get
theorem u_impl_InsideI (a0:Iv) (a1:Iv):(t_impl_InsideI a0 a1).opt=some (zdW a0 a1):=Tr.zW (by kernel_rfl)
def E_impl_InsideI:Ent Tryz.prog:= .of2 Tb162 B162 (fun _ _=>true) zdW fun a0 a1 _=>(r_impl_InsideI a0 a1).trans (u_impl_InsideI a0 a1)
def B109:Bod Tryz.prog:=⟨109,Tryz.f109,Tryz.f109.body.getD .skip,Tryz.func109,by kernel_rfl,by kernel_rfl,zai.no _ _⟩
def Tb109:Tb Tryz.prog:= {T:= [Y2,Y33],mix:=mix,Es:= [zcs,zaq],Bs:= [],d:=1}
def t_impl_HullI (a0:Iv) (a1:Iv):Tr (Iv):=
 .br (!(za0 a0 a1)) (.leaf zJ) (.leaf ⟨(mn a0.lo a1.lo),(mx a0.hi a1.hi)⟩)
theorem r_impl_HullI (a0:Iv) (a1:Iv):Tb109.run B109 [enc a0,enc a1] (Iv)=(t_impl_HullI a0 a1).opt:=by kernel_rfl
def zb2:Iv->Iv->Iv:=fun a0 a1=>(t_impl_HullI a0 a1).get
theorem u_impl_HullI (a0:Iv) (a1:Iv):(t_impl_HullI a0 a1).opt=some (zb2 a0 a1):=Tr.zW (by kernel_rfl)
def E_impl_HullI:Ent Tryz.prog:= .of2 Tb109 B109 (fun _ _=>true) zb2 fun a0 a1 _=>(r_impl_HullI a0 a1).trans (u_impl_HullI a0 a1)
def B24:Bod Tryz.prog:=⟨24,Tryz.f24,Tryz.f24.body.getD .skip,Tryz.func24,by kernel_rfl,by kernel_rfl,zai.no _ _⟩
def Tb24:Tb Tryz.prog:= {T:= [Y2,Y33],mix:=mix,Es:= [zcs,zaq,zck],Bs:= [],d:=1}
def t_impl_AddI (a0:Iv) (a1:Iv):Tr (Iv):=
 .br (!(za0 a0 a1)) (.leaf zJ) (.leaf (zaF (Rng.w .i64 (a0.lo.val+a1.lo.val)) (Rng.w .i64 (a0.hi.val+a1.hi.val)) true))
theorem r_impl_AddI (a0:Iv) (a1:Iv):Tb24.run B24 [enc a0,enc a1] (Iv)=(t_impl_AddI a0 a1).opt:=by kernel_rfl
def zb9:Iv->Iv->Iv:=fun a0 a1=>(t_impl_AddI a0 a1).get
theorem u_impl_AddI (a0:Iv) (a1:Iv):(t_impl_AddI a0 a1).opt=some (zb9 a0 a1):=Tr.zW (by kernel_rfl)
def E_impl_AddI:Ent Tryz.prog:= .of2 Tb24 B24 (fun _ _=>true) zb9 fun a0 a1 _=>(r_impl_AddI a0 a1).trans (u_impl_AddI a0 a1)
def B28:Bod Tryz.prog:=⟨28,Tryz.f28,Tryz.f28.body.getD .skip,Tryz.func28,by kernel_rfl,by kernel_rfl,zai.no _ _⟩
def Tb28:Tb Tryz.prog:= {T:= [Y2,Y33],mix:=mix,Es:= [E_impl_AddI,E_impl_NegI],Bs:= [],d:=1}
def t_impl_SubI (a0:Iv) (a1:Iv):Tr (Iv):=
 .leaf (zb9 a0 (zdA a1))
theorem r_impl_SubI (a0:Iv) (a1:Iv):Tb28.run B28 [enc a0,enc a1] (Iv)=(t_impl_SubI a0 a1).opt:=by kernel_rfl
def zaT:Iv->Iv->Iv:=fun a0 a1=>(t_impl_SubI a0 a1).get
theorem u_impl_SubI (a0:Iv) (a1:Iv):(t_impl_SubI a0 a1).opt=some (zaT a0 a1):=Tr.zW (by kernel_rfl)
def E_impl_SubI:Ent Tryz.prog:= .of2 Tb28 B28 (fun _ _=>true) zaT fun a0 a1 _=>(r_impl_SubI a0 a1).trans (u_impl_SubI a0 a1)
def B108:Bod Tryz.prog:=⟨108,Tryz.f108,Tryz.f108.body.getD .skip,Tryz.func108,by kernel_rfl,by kernel_rfl,zai.no _ _⟩
def Tb108:Tb Tryz.prog:= {T:= [Y2,Y33],mix:=mix,Es:= [],Bs:= [],d:=1}
def t_impl_ring:Tr (Iv):=
 .leaf ⟨⟨(-4294967296),rfl⟩,⟨4294967296,rfl⟩⟩
theorem r_impl_ring:Tb108.run B108 [] (Iv)=(t_impl_ring).opt:=by kernel_rfl
def zc0:Iv:=(t_impl_ring).get
theorem u_impl_ring:(t_impl_ring).opt=some (zc0):=Tr.zW (by kernel_rfl)
def E_impl_ring:Ent Tryz.prog:= .of0 Tb108 B108 zc0 (r_impl_ring.trans u_impl_ring)
def B38:Bod Tryz.prog:=⟨38,Tryz.f38,Tryz.f38.body.getD .skip,Tryz.func38,by kernel_rfl,by kernel_rfl,zai.no _ _⟩
def Tb38:Tb Tryz.prog:= {T:= [Y2,Y33],mix:=mix,Es:= [zaq,zck,zbf],Bs:= [],d:=1}
def t_impl_Integer (a0:I64):Tr (Iv):=
 .br (!(zal a0 ⟨(-268435456),rfl⟩ ⟨268435456,rfl⟩)) (.leaf zJ) (.leaf (zaF (Rng.w .i64 (a0.val*4294967296)) (Rng.w .i64 (a0.val*4294967296)) true))
theorem r_impl_Integer (a0:I64):Tb38.run B38 [enc a0] (Iv)=(t_impl_Integer a0).opt:=by kernel_rfl
def zT:I64->Iv:=fun a0=>(t_impl_Integer a0).get
theorem u_impl_Integer (a0:I64):(t_impl_Integer a0).opt=some (zT a0):=Tr.zW (by kernel_rfl)
def ze3:Ent Tryz.prog:= .of1 Tb38 B38 (fun _=>true) zT fun a0 _=>(r_impl_Integer a0).trans (u_impl_Integer a0)
def B163:Bod Tryz.prog:=⟨163,Tryz.f163,Tryz.f163.body.getD .skip,Tryz.func163,by kernel_rfl,by kernel_rfl,zai.no _ _⟩
def Tb163:Tb Tryz.prog:= {T:= [Y2,Y33],mix:=mix,Es:= [zem,E_impl_SubI,E_impl_DivI,ze3],Bs:= [],d:=1}
def t_impl_series (a0:Iv) (a1:I64):Tr (Iv):=
 let c2:=(Rng.w .i64 (a1.val+14));let c10:=(Rng.w .i64 (a1.val+12));let c18:=(Rng.w .i64 (a1.val+10));let c26:=(Rng.w .i64 (a1.val+8));let c34:=(Rng.w .i64 (a1.val+6));let c42:=(Rng.w .i64 (a1.val+4));let c50:=(Rng.w .i64 (a1.val+2));let c58:=(Rng.w .i64 (a1.val+0));.leaf (zaT (zT ⟨1,rfl⟩) (zar (zbs a0 (zT (Rng.w .i64 (c58.val*(Rng.w .i64 (c58.val+1)).val)))) (zaT (zT ⟨1,rfl⟩) (zar (zbs a0 (zT (Rng.w .i64 (c50.val*(Rng.w .i64 (c50.val+1)).val)))) (zaT (zT ⟨1,rfl⟩) (zar (zbs a0 (zT (Rng.w .i64 (c42.val*(Rng.w .i64 (c42.val+1)).val)))) (zaT (zT ⟨1,rfl⟩) (zar (zbs a0 (zT (Rng.w .i64 (c34.val*(Rng.w .i64 (c34.val+1)).val)))) (zaT (zT ⟨1,rfl⟩) (zar (zbs a0 (zT (Rng.w .i64 (c26.val*(Rng.w .i64 (c26.val+1)).val)))) (zaT (zT ⟨1,rfl⟩) (zar (zbs a0 (zT (Rng.w .i64 (c18.val*(Rng.w .i64 (c18.val+1)).val)))) (zaT (zT ⟨1,rfl⟩) (zar (zbs a0 (zT (Rng.w .i64 (c10.val*(Rng.w .i64 (c10.val+1)).val)))) (zaT (zT ⟨1,rfl⟩) (zar (zbs a0 (zT (Rng.w .i64 (c2.val*(Rng.w .i64 (c2.val+1)).val)))) (zT ⟨1,rfl⟩)))))))))))))))))
theorem r_impl_series (a0:Iv) (a1:I64):Tb163.run B163 [enc a0,enc a1] (Iv)=(t_impl_series a0 a1).opt:=by kernel_rfl
def zeB:Iv->I64->Iv:=fun a0 a1=>(t_impl_series a0 a1).get
theorem u_impl_series (a0:Iv) (a1:I64):(t_impl_series a0 a1).opt=some (zeB a0 a1):=Tr.zW (by kernel_rfl)
def E_impl_series:Ent Tryz.prog:= .of2 Tb163 B163 (fun _ _=>true) zeB fun a0 a1 _=>(r_impl_series a0 a1).trans (u_impl_series a0 a1)
def B164:Bod Tryz.prog:=⟨164,Tryz.f164,Tryz.f164.body.getD .skip,Tryz.func164,by kernel_rfl,by kernel_rfl,zai.no _ _⟩
def Tb164:Tb Tryz.prog:= {T:= [Y2,Y33],mix:=mix,Es:= [],Bs:= [],d:=1}
def t_impl_tiny:Tr (Iv):=
 .leaf ⟨⟨(-1),rfl⟩,⟨1,rfl⟩⟩
theorem r_impl_tiny:Tb164.run B164 [] (Iv)=(t_impl_tiny).opt:=by kernel_rfl
def F_impl_tiny:Iv:=(t_impl_tiny).get
theorem u_impl_tiny:(t_impl_tiny).opt=some (F_impl_tiny):=Tr.zW (by kernel_rfl)
def E_impl_tiny:Ent Tryz.prog:= .of0 Tb164 B164 F_impl_tiny (r_impl_tiny.trans u_impl_tiny)
def B136:Bod Tryz.prog:=⟨136,Tryz.f136,Tryz.f136.body.getD .skip,Tryz.func136,by kernel_rfl,by kernel_rfl,zai.no _ _⟩
def Tb136:Tb Tryz.prog:= {T:= [Y2,Y33],mix:=mix,Es:= [E_impl_AddI,zem,ET_impl_SqrI,zaq,E_impl_ring,E_impl_InsideI,E_impl_series,E_impl_tiny],Bs:= [],d:=1}
def ze9 (a0:Iv):Tr (Iv):=
 .br (!(zdW a0 zc0)) (.leaf zJ) (.leaf (zb9 (zar a0 (zeB (zek a0) ⟨2,rfl⟩)) F_impl_tiny))
theorem r_impl_SinSeries (a0:Iv):Tb136.run B136 [enc a0] (Iv)=(ze9 a0).opt:=by kernel_rfl
def zcF:Iv->Iv:=fun a0=>(ze9 a0).get
theorem u_impl_SinSeries (a0:Iv):(ze9 a0).opt=some (zcF a0):=Tr.zW (by kernel_rfl)
def E_impl_SinSeries:Ent Tryz.prog:= .of1 Tb136 B136 (fun _=>true) zcF fun a0 _=>(r_impl_SinSeries a0).trans (u_impl_SinSeries a0)
def B137:Bod Tryz.prog:=⟨137,Tryz.f137,Tryz.f137.body.getD .skip,Tryz.func137,by kernel_rfl,by kernel_rfl,zai.no _ _⟩
def Tb137:Tb Tryz.prog:= {T:= [Y2,Y33],mix:=mix,Es:= [E_impl_AddI,ET_impl_SqrI,zaq,E_impl_ring,E_impl_InsideI,E_impl_series,E_impl_tiny],Bs:= [],d:=1}
def zfa (a0:Iv):Tr (Iv):=
 .br (!(zdW a0 zc0)) (.leaf zJ) (.leaf (zb9 (zeB (zek a0) ⟨1,rfl⟩) F_impl_tiny))
theorem r_impl_CosSeries (a0:Iv):Tb137.run B137 [enc a0] (Iv)=(zfa a0).opt:=by kernel_rfl
def zcG:Iv->Iv:=fun a0=>(zfa a0).get
theorem u_impl_CosSeries (a0:Iv):(zfa a0).opt=some (zcG a0):=Tr.zW (by kernel_rfl)
def E_impl_CosSeries:Ent Tryz.prog:= .of1 Tb137 B137 (fun _=>true) zcG fun a0 _=>(r_impl_CosSeries a0).trans (u_impl_CosSeries a0)
def B135:Bod Tryz.prog:=⟨135,Tryz.f135,Tryz.f135.body.getD .skip,Tryz.func135,by kernel_rfl,by kernel_rfl,zai.no _ _⟩
def Tb135:Tb Tryz.prog:= {T:= [Y2,Y33],mix:=mix,Es:= [E_impl_ring,E_impl_MeetI],Bs:= [],d:=1}
def t_impl_inRing (a0:Iv):Tr (Iv):=
 .leaf (zfs a0 zc0).a
theorem r_impl_inRing (a0:Iv):Tb135.run B135 [enc a0] (Iv)=(t_impl_inRing a0).opt:=by kernel_rfl
def zbq:Iv->Iv:=fun a0=>(t_impl_inRing a0).get
theorem u_impl_inRing (a0:Iv):(t_impl_inRing a0).opt=some (zbq a0):=Tr.zW (by kernel_rfl)
def E_impl_inRing:Ent Tryz.prog:= .of1 Tb135 B135 (fun _=>true) zbq fun a0 _=>(r_impl_inRing a0).trans (u_impl_inRing a0)
def B107:Bod Tryz.prog:=⟨107,Tryz.f107,Tryz.f107.body.getD .skip,Tryz.func107,by kernel_rfl,by kernel_rfl,zai.no _ _⟩
def Tb107:Tb Tryz.prog:= {T:= [Y2,Y33],mix:=mix,Es:= [zc6,E_impl_isAngle],Bs:= [],d:=1}
def ze8 (a0:Iv):Tr (Bool):=
 .br (za4 a0) (.br (zci a0.lo) (.leaf (zci a0.hi)) (.leaf false)) (.leaf false)
theorem r_impl_areAngles (a0:Iv):Tb107.run B107 [enc a0] (Bool)=(ze8 a0).opt:=by kernel_rfl
def zb8:Iv->Bool:=fun a0=>(ze8 a0).get
theorem u_impl_areAngles (a0:Iv):(ze8 a0).opt=some (zb8 a0):=Tr.zW (by kernel_rfl)
def E_impl_areAngles:Ent Tryz.prog:= .of1 Tb107 B107 (fun _=>true) zb8 fun a0 _=>(r_impl_areAngles a0).trans (u_impl_areAngles a0)
def zcB (a0:I64):Tr (Iv):=
 .br (a0.val==0) (.leaf ⟨⟨0,rfl⟩,⟨0,rfl⟩⟩) (.br (decide (a0.val<0)) (.bad) (let c2:=zaz a0 ⟨7244019458077122842,rfl⟩ ⟨30,rfl⟩;.leaf ⟨c2.a,(Rng.w .i64 (c2.a.val+1))⟩))
def zbo:I64->Iv:=fun a0=>(zcB a0).get
def zdK:I64->Bool:=fun a0=>(zcB a0).opt.isSome
def zcf (a0:I64):Tr (Iv):=
 .br (a0.val==0) (.leaf ⟨⟨0,rfl⟩,⟨0,rfl⟩⟩) (.br (decide (a0.val<0)) (let c1:=(Rng.w .i64 (0-a0.val));.br (zdK c1) (let c2:=zbo c1;.leaf ⟨(Rng.w .i64 (0-c2.hi.val)),(Rng.w .i64 (0-c2.lo.val))⟩) (.bad)) (let c5:=zaz a0 ⟨7244019458077122842,rfl⟩ ⟨30,rfl⟩;.leaf ⟨c5.a,(Rng.w .i64 (c5.a.val+1))⟩))
def zbz:I64->Iv:=fun a0=>(zcf a0).get
def zdQ:I64->Bool:=fun a0=>(zcf a0).opt.isSome
def t_spec_TurnI (a0:I64):Tr (Iv):=
 .br (!(zV a0 ⟨(-4096),rfl⟩ ⟨4096,rfl⟩)) (.leaf za8) (.br (zdQ a0) (.leaf (zbz a0)) (.bad))
def za2:I64->Iv:=fun a0=>(t_spec_TurnI a0).get
def zd6 (a0:I64):Tr (Bool):=
 .leaf (zV a0 ⟨(-1099511627776),rfl⟩ ⟨1099511627776,rfl⟩)
def zaK:I64->Bool:=fun a0=>(zd6 a0).get
def zfx (a0:I64) (a1:I64):Tr (I64):=
 .br (a1.val==0) (.bad) (let c1:=(Rng.w .i64 (a0.val.tdiv a1.val));.br (a1.val==0) (.bad) (.br (decide ((Rng.w .i64 (a0.val.tmod a1.val)).val<0)) (.leaf (Rng.w .i64 (c1.val-1))) (.leaf c1)))
def F_spec_l06Floor:I64->I64->I64:=fun a0 a1=>(zfx a0 a1).get
def G_spec_l06Floor:I64->I64->Bool:=fun a0 a1=>(zfx a0 a1).opt.isSome
def ze6 (a0:I64):Tr (I64):=
 .br (!(zaK a0)) (.leaf ⟨0,rfl⟩) (let c2:=(Rng.w .i64 (a0.val+3373259426));.br (G_spec_l06Floor c2 ⟨6746518852,rfl⟩) (.leaf (F_spec_l06Floor c2 ⟨6746518852,rfl⟩)) (.bad))
def zad:I64->I64:=fun a0=>(ze6 a0).get
def t_spec_InsideI (a0:Iv) (a1:Iv):Tr (Bool):=
 .br (!(za a1)) (.leaf true) (.br (za a0) (.br (decide (a1.lo.val<=a0.lo.val)) (.leaf (decide (a0.hi.val<=a1.hi.val))) (.leaf false)) (.leaf false))
def zaV:Iv->Iv->Bool:=fun a0 a1=>(t_spec_InsideI a0 a1).get
def t_spec_HullI (a0:Iv) (a1:Iv):Tr (Iv):=
 .br (!(za a0)) (.leaf zn) (.br (!(za a1)) (.leaf zn) (.leaf (zaf (zt a0.lo a1.lo) (zo a0.hi a1.hi))))
def zaY:Iv->Iv->Iv:=fun a0 a1=>(t_spec_HullI a0 a1).get
def t_spec_AddI (a0:Iv) (a1:Iv):Tr (Iv):=
 .br (!(za a0)) (.leaf zn) (.br (!(za a1)) (.leaf zn) (.leaf (zaf (Rng.w .i64 (a0.lo.val+a1.lo.val)) (Rng.w .i64 (a0.hi.val+a1.hi.val)))))
def zaE:Iv->Iv->Iv:=fun a0 a1=>(t_spec_AddI a0 a1).get
def t_spec_SubI (a0:Iv) (a1:Iv):Tr (Iv):=
 .br (!(za a0)) (.leaf zn) (.br (!(za a1)) (.leaf zn) (.leaf (zaf (Rng.w .i64 (a0.lo.val-a1.hi.val)) (Rng.w .i64 (a0.hi.val-a1.lo.val)))))
def zO:Iv->Iv->Iv:=fun a0 a1=>(t_spec_SubI a0 a1).get
def t_spec_l06Ring:Tr (Iv):=
 .leaf ⟨⟨(-4294967296),rfl⟩,⟨4294967296,rfl⟩⟩
def zH:Iv:=(t_spec_l06Ring).get
def t_spec_Integer (a0:I64):Tr (Iv):=
 .br (!(zV a0 ⟨(-268435455),rfl⟩ ⟨268435455,rfl⟩)) (.leaf zn) (.leaf (zaf (Rng.w .i64 (a0.val*4294967296)) (Rng.w .i64 (a0.val*4294967296))))
def zA:I64->Iv:=fun a0=>(t_spec_Integer a0).get
def zcA (a0:Iv) (a1:I64):Tr (Iv):=
 let c2:=(Rng.w .i64 (16+a1.val));let c10:=(Rng.w .i64 (14+a1.val));let c18:=(Rng.w .i64 (12+a1.val));let c26:=(Rng.w .i64 (10+a1.val));let c34:=(Rng.w .i64 (8+a1.val));let c42:=(Rng.w .i64 (6+a1.val));let c50:=(Rng.w .i64 (4+a1.val));let c58:=(Rng.w .i64 (2+a1.val));.leaf (zO (zA ⟨1,rfl⟩) (zM (zU a0 (zA (Rng.w .i64 (c58.val*(Rng.w .i64 (c58.val+1)).val)))) (zO (zA ⟨1,rfl⟩) (zM (zU a0 (zA (Rng.w .i64 (c50.val*(Rng.w .i64 (c50.val+1)).val)))) (zO (zA ⟨1,rfl⟩) (zM (zU a0 (zA (Rng.w .i64 (c42.val*(Rng.w .i64 (c42.val+1)).val)))) (zO (zA ⟨1,rfl⟩) (zM (zU a0 (zA (Rng.w .i64 (c34.val*(Rng.w .i64 (c34.val+1)).val)))) (zO (zA ⟨1,rfl⟩) (zM (zU a0 (zA (Rng.w .i64 (c26.val*(Rng.w .i64 (c26.val+1)).val)))) (zO (zA ⟨1,rfl⟩) (zM (zU a0 (zA (Rng.w .i64 (c18.val*(Rng.w .i64 (c18.val+1)).val)))) (zO (zA ⟨1,rfl⟩) (zM (zU a0 (zA (Rng.w .i64 (c10.val*(Rng.w .i64 (c10.val+1)).val)))) (zO (zA ⟨1,rfl⟩) (zM (zU a0 (zA (Rng.w .i64 (c2.val*(Rng.w .i64 (c2.val+1)).val)))) (zA ⟨1,rfl⟩)))))))))))))))))
def zaI:Iv->I64->Iv:=fun a0 a1=>(zcA a0 a1).get
def t_spec_l06Tiny:Tr (Iv):=
 .leaf ⟨⟨(-1),rfl⟩,⟨1,rfl⟩⟩
def zby:Iv:=(t_spec_l06Tiny).get
def ze5 (a0:Iv):Tr (Iv):=
 .br (!(zaV a0 zH)) (.leaf za8) (.leaf (zaE (zM a0 (zaI (zaD a0) ⟨0,rfl⟩)) zby))
def zaR:Iv->Iv:=fun a0=>(ze5 a0).get
def ze7 (a0:Iv):Tr (Iv):=
 .br (!(zaV a0 zH)) (.leaf za8) (.leaf (zaE (zaI (zaD a0) ⟨(-1),rfl⟩) zby))
def zaS:Iv->Iv:=fun a0=>(ze7 a0).get
def t_spec_l06Meet (a0:Iv):Tr (Iv):=
 let c2:=zbZ a0 zH;.br (!c2.b) (.leaf zH) (.leaf c2.a)
def zam:Iv->Iv:=fun a0=>(t_spec_l06Meet a0).get
def t_spec_ValidInterval (a0:Iv):Tr (Bool):=
 .leaf (za a0)
def F_spec_ValidInterval:Iv->Bool:=fun a0=>(t_spec_ValidInterval a0).get
def t_spec_l06Fits (a0:Iv):Tr (Bool):=
 .br (F_spec_ValidInterval a0) (.br (zaK a0.lo) (.leaf (zaK a0.hi)) (.leaf false)) (.leaf false)
def zdS:Iv->Bool:=fun a0=>(t_spec_l06Fits a0).get
end
end Go.Proofs.YtlolpmmloolieaaGreatDoor.Ev
namespace Go.Proofs.YtlolpmmloolieaaGreatDoor.Ev
open Go
theorem zbW (a:Iv):za a=true↔(-1152921504606846976<a.lo.val/\a.lo.val<=a.hi.val/\a.hi.val<1152921504606846976):=by
 simp only [za,zfn,Tr.get]
 by_cases h1:(-1152921504606846976:Int)<a.lo.val<;>by_cases h2:a.lo.val<=a.hi.val<;>simp [h1,h2]
theorem okno (a:Iv):za a=false↔¬(-1152921504606846976<a.lo.val/\a.lo.val<=a.hi.val/\a.hi.val<1152921504606846976):=by
 rw [<- zbW];cases za a<;>simp
theorem zcX {lo hi:I64} (h: -1152921504606846976<lo.val/\lo.val<=hi.val/\hi.val<1152921504606846976):zaf lo hi=⟨lo,hi⟩:=by
 have:za ⟨lo,hi⟩=true:=(zbW _).2 h
 simp only [zaf,zcT,Tr.get,this,Bool.not_true,cond_false]
theorem make_no {lo hi:I64} (h:¬(-1152921504606846976<lo.val/\lo.val<=hi.val/\hi.val<1152921504606846976)):zaf lo hi=zn:=by
 have:za ⟨lo,hi⟩=false:=(okno _).2 h
 simp only [zaf,zcT,Tr.get,this,Bool.not_false,cond_true]
theorem make_ext {a b c d:I64} (h1:a.val=c.val) (h2:b.val=d.val):zaf a b=zaf c d:=by rw [rext h1,rext h2]
theorem zcH:za zn=false:=by decide +kernel
theorem isw_eq (a:Iv):zah a= !(za a):=by
 simp only [zah,zcg,Tr.get,valid_eq]
theorem zeT:za8=zn:=rfl
theorem mn_val (a b:I64):(mn a b).val=if b.val<a.val then b.val else a.val:=by unfold mn;by_cases hb:b.val<a.val<;>simp [hb]
theorem mx_val (a b:I64):(mx a b).val=if b.val>a.val then b.val else a.val:=by unfold mx;by_cases hb:b.val>a.val<;>simp [hb]
theorem add_eq (a b:Iv):zb9 a b=zaE a b:=by
 simp only [zb9,t_impl_AddI,zaE,t_spec_AddI,Tr.get,areb_eq,zb3,zfq,cond_true]
 cases za a<;>cases za b<;>rfl
theorem neg_ok_val {a:Iv} (h:za a=true):zaQ a=⟨.w .i64 (0-a.hi.val),.w .i64 (0-a.lo.val)⟩:=by
 have:=(zbW a).1 h
 simp only [zaQ,t_spec_NegI,Tr.get,h,Bool.not_true,cond_false]
 refine zcX ?_
 rw [wi (by omega) (by omega),wi (by omega) (by omega)]
 omega
theorem neg_no {a:Iv} (h:za a=false):zaQ a=zn:=by
 simp only [zaQ,t_spec_NegI,Tr.get,h,Bool.not_false,cond_true]
theorem neg_isok (a:Iv):za (zaQ a)=za a:=by
 cases h:za a
 ·rw [neg_no h];exact zcH
 ·have:=(zbW a).1 h
  rw [neg_ok_val h]
  refine (zbW _).2 ?_
  simp only
  rw [wi (by omega) (by omega),wi (by omega) (by omega)]
  omega
theorem sub_eq (a b:Iv):zaT a b=zO a b:=by
 simp only [zaT,t_impl_SubI,Tr.get,add_eq,neg_eq,zaE,t_spec_AddI,zO,t_spec_SubI,neg_isok]
 cases ha:za a
 ·rfl
 cases hb:za b
 ·rfl
 have h1:=(zbW a).1 ha
 have h2:=(zbW b).1 hb
 simp only [Bool.not_true,cond_false,neg_ok_val hb]
 refine make_ext ?_ ?_
 ·rw [wi (n:=0-b.hi.val) (by omega) (by omega)];congr 1;congr 1;omega
 ·rw [wi (n:=0-b.lo.val) (by omega) (by omega)];congr 1;congr 1;omega
theorem integer_eq (n:I64):zT n=zA n:=by
 simp only [zT,t_impl_Integer,zA,t_spec_Integer,Tr.get,zct,zed,zfq,zb3,cond_true]
 by_cases h: -268435455<=n.val/\n.val<=268435455
 ·have h': -268435456<=n.val/\n.val<=268435456:=by omega
  simp only [h,h',and_self,decide_true,Bool.not_true,cond_false]
 ·by_cases h': -268435456<=n.val/\n.val<=268435456
  ·simp only [h,h',and_self,decide_true,decide_false,Bool.not_true,Bool.not_false,cond_false,cond_true]
   refine make_no ?_
   rw [wi (by omega) (by omega)]
   omega
  ·simp only [h,h',decide_false,Bool.not_false,cond_true]
theorem hull_eq (a b:Iv):zb2 a b=zaY a b:=by
 simp only [zb2,t_impl_HullI,zaY,t_spec_HullI,Tr.get,areb_eq,zb3]
 cases ha:za a
 ·rfl
 cases hb:za b
 ·rfl
 have h1:=(zbW a).1 ha
 have h2:=(zbW b).1 hb
 simp only [Bool.and_self,Bool.not_true,cond_false,<- min_eq,<- max_eq]
 refine (zcX ?_).symm
 rw [mn_val,mx_val]
 split<;>split<;>omega
theorem meet_eq (a b:Iv):zfs a b=zbZ a b:=by
 simp only [zfs,t_impl_MeetI,zbZ,zdo,Tr.get,isw_eq,zb3,min_eq,max_eq]
theorem overlap_eq (a b:Iv):zb1 a b=zat a b:=by
 simp only [zb1,zfD,zat,zc9,Tr.get,meet_eq]
theorem inside_eq (a b:Iv):zdW a b=zaV a b:=by
 simp only [zdW,t_impl_InsideI,zaV,t_spec_InsideI,Tr.get,isw_eq]
 cases za a<;>cases za b<;>rfl
theorem ring_eq:zc0=zH:=rfl
theorem tiny_eq:F_impl_tiny=zby:=rfl
theorem angle_eq (n:I64):zci n=zaK n:=by
 simp only [zci,t_impl_isAngle,zaK,zd6,Tr.get,zct,zed]
theorem angle_iff (n:I64):zaK n=true↔(-1099511627776<=n.val/\n.val<=1099511627776):=by
 simp only [zaK,zd6,Tr.get,zed,decide_eq_true_eq]
theorem fits_eq (a:Iv):zb8 a=zdS a:=by
 simp only [zb8,ze8,zdS,t_spec_l06Fits,Tr.get,angle_eq,valid_eq]
 rfl
theorem ediv_bd1 {x d:Int} (hd:0<d) (h: -9223372036854775808<=x/\x<=9223372036854775807): -9223372036854775808<=x/d/\x/d<=9223372036854775807:=by
 have:=ediv_bd (M:=9223372036854775808) hd h.1 (by omega)
 refine ⟨this.1,?_⟩
 by_cases h0:0<=x
 ·have:=Int.ediv_le_self d h0;omega
 ·have:=Int.ediv_neg_of_neg_of_pos (a:=x) (by omega) hd;omega
theorem or_comm' (a b:Int):zaN .or .u64 a b=zaN .or .u64 b a:=by
 show ((BitVec.ofInt 64 a ||| BitVec.ofInt 64 b).toNat:Int)=((BitVec.ofInt 64 b ||| BitVec.ofInt 64 a).toNat:Int)
 rw [BitVec.or_comm]
theorem shift_val (w:Wide) (n:I64) (k:Nat) (hn:n.val=k) (h1:1<=k) (h2:k<=63):wv (zdj w n)=wv w/2^k:=by
 have e0:(n.val==0)=false:=by simp;omega
 have e1:decide (n.val<64)=true:=by simp;omega
 have e2:(Rng.w .u64 n.val).val=k:=by rw [wu (by omega) (by omega),hn]
 have e3:(Rng.w .u64 ((Rng.w .i64 (64-n.val)).val)).val=((64-k:Nat):Int):=by rw [wi (by omega) (by omega),wu (by omega) (by omega)];omega
 simp only [zdj,t_spec_l02Shift,Tr.get,e0,e1,cond_true,cond_false,e2,e3,Int.toNat_natCast,Nat.min_eq_left (show k<=64 by omega),Nat.min_eq_left (show 64-k<=64 by omega),fdpow]
 have bh:=w.hi.bd
 have bl:=w.lo.ubd
 have hp:(2:Int)^k*2^(64-k)=18446744073709551616:=by
  rw [<- Int.pow_add,show k+(64-k)=64 by omega];rfl
 have hp0:(0:Int)<2^k:=Int.pow_pos (by decide)
 have hq0:(0:Int)<2^(64-k):=Int.pow_pos (by decide)
 generalize hP:(2:Int)^k=P at hp hp0
 generalize hQ:(2:Int)^(64-k)=Q at hp hq0
 have l1:0<=w.lo.val/P:=Int.ediv_nonneg bl.1 (by omega)
 have l2:w.lo.val/P<Q:=by
  refine Int.ediv_lt_of_lt_mul hp0 ?_
  rw [Int.mul_comm,hp];omega
 have hhb: -9223372036854775808<=w.hi.val/P/\w.hi.val/P<=9223372036854775807:=ediv_bd1 hp0 bh
 have hQle:Q<=18446744073709551616:=by
  have:Q*1<=Q*P:=Int.mul_le_mul_of_nonneg_left (by omega) (by omega)
  rw [Int.mul_comm Q P,hp] at this;omega
 have wlo:(Rng.w .u64 (w.lo.val/P)).val=w.lo.val/P:=wu l1 (by omega)
 have whi:(Rng.w .u64 ((Rng.w .u64 w.hi.val).val*Q)).val=(w.hi.val%P)*Q:=by
  rw [zaJ,zaJ]
  have:(18446744073709551616:Int)=P*Q:=hp.symm
  rw [this]
  have e:w.hi.val%(P*Q)*Q%(P*Q)=w.hi.val*Q%(P*Q):=by
   rw [Int.mul_emod,Int.emod_emod_of_dvd _ (Int.dvd_refl _),<- Int.mul_emod]
  rw [e,Int.mul_comm w.hi.val Q,Int.mul_comm P Q,Int.mul_emod_mul_of_pos _ _ hq0,Int.mul_comm]
 have hm0:0<=w.hi.val%P:=Int.emod_nonneg _ (by omega)
 have hm1:w.hi.val%P<P:=Int.emod_lt_of_pos _ hp0
 have hmq:(w.hi.val%P)*Q<=(P-1)*Q:=Int.mul_le_mul_of_nonneg_right (by omega) (by omega)
 have hsum:(w.hi.val%P)*Q+w.lo.val/P<=18446744073709551615:=by
  have:(P-1)*Q=18446744073709551616-Q:=by rw [Int.sub_mul,hp,Int.one_mul]
  omega
 have hor:zaN .or .u64 (w.lo.val/P) (w.hi.val%P*Q)=w.hi.val%P*Q+w.lo.val/P:=by
  rw [or_comm',or_add (64-k) (w.hi.val%P).toNat (by rw [hQ,Int.toNat_of_nonneg hm0,Int.mul_comm]) l1 (by rw [hQ];exact l2) hsum]
 simp only [wv]
 rw [wi hhb.1 hhb.2,wlo,whi,hor,wu (by have:=Int.mul_nonneg hm0 (show (0:Int)<=Q by omega);omega) hsum]
 have hdm:w.hi.val=P*(w.hi.val/P)+w.hi.val%P:=(Int.mul_ediv_add_emod _ _).symm
 have key:w.hi.val*18446744073709551616+w.lo.val=(w.hi.val/P*18446744073709551616+w.hi.val%P*Q)*P+w.lo.val:=by
  rw [Int.add_mul]
  have e1:w.hi.val%P*Q*P=w.hi.val%P*18446744073709551616:=by rw [Int.mul_assoc,Int.mul_comm Q P,hp]
  have e2:w.hi.val/P*18446744073709551616*P=P*(w.hi.val/P)*18446744073709551616:=by rw [Int.mul_comm _ P,Int.mul_assoc]
  rw [e1,e2,<- Int.add_mul,<- hdm]
 rw [key,Int.add_comm _ w.lo.val,Int.add_mul_ediv_right _ _ (by omega)]
 omega
theorem mf_val (a b n:I64) (k:Nat) (hn:n.val=k) (h1:1<=k) (h2:k<=63):zaz a b n=narrow (a.val*b.val/2^k):=by
 have hin:zV n ⟨0,rfl⟩ ⟨126,rfl⟩=true:=by rw [zed];simp;omega
 have hb:=zfG a.bd b.bd
 simp only [zaz,t_spec_MulFloor,Tr.get,hin,Bool.not_true,cond_false,mul_spec,int_spec,shift_val _ n k hn h1 h2]
 rw [zfm (by omega) (by omega)]
theorem mf32 (a b:I64):zaz a b ⟨32,rfl⟩=narrow (a.val*b.val/4294967296):=mf_val a b _ 32 rfl (by decide) (by decide)
theorem mf30 (a b:I64):zaz a b ⟨30,rfl⟩=narrow (a.val*b.val/1073741824):=mf_val a b _ 30 rfl (by decide) (by decide)
theorem narrow_ok {v:Int} (h: -9223372036854775808<=v) (h':v<=9223372036854775807):narrow v=⟨.w .i64 v,true⟩:=by unfold narrow;rw [if_pos ⟨h,h'⟩]
theorem turn_lo {k:I64} (h:0<k.val) (h':k.val<=4096):zaz k ⟨7244019458077122842,rfl⟩ ⟨30,rfl⟩=⟨.w .i64 (k.val*7244019458077122842/1073741824),true⟩ /\
  0<=k.val*7244019458077122842/1073741824/\k.val*7244019458077122842/1073741824<=27633759721874:=by
 have:0<=k.val*7244019458077122842/1073741824/\k.val*7244019458077122842/1073741824<=27633759721874:=by omega
 exact ⟨by rw [mf30];exact narrow_ok (v:=k.val*7244019458077122842/1073741824) (by omega) (by omega),this⟩
theorem turn_p (k:I64) (h:0<=k.val) (h':k.val<=4096):∃x:Iv,(zcB k).opt=some x/\(zdO k).opt=some x/\za x=true:=by
 have hw:zal k ⟨(-4096),rfl⟩ ⟨4096,rfl⟩=true:=by rw [zct];simp;omega
 have hn:decide (k.val<0)=false:=by simp;omega
 simp only [zcB,zdO,Tr.opt,hw,hn,Bool.not_true,cond_false,mulfloor_F]
 by_cases h0:k.val=0
 ·have e0:(k.val==0)=true:=by simp [h0]
  simp only [e0,cond_true]
  exact ⟨_,rfl,rfl,by decide +kernel⟩
 ·have e0:(k.val==0)=false:=by simp [h0]
  obtain ⟨e,b1,b2⟩:=turn_lo (k:=k) (by omega) h'
  simp only [e0,cond_false,e]
  refine ⟨_,rfl,rfl,(zbW _).2 ?_⟩
  simp only
  rw [wi (n:=k.val*7244019458077122842/1073741824) (by omega) (by omega),wi (by omega) (by omega)]
  omega
theorem turn_ok (k:I64) (h: -4096<=k.val) (h':k.val<=4096):∃x:Iv,(zcf k).opt=some x/\(zdp k).opt=some x/\za x=true:=by
 have hw:zal k ⟨(-4096),rfl⟩ ⟨4096,rfl⟩=true:=by rw [zct];simp;omega
 by_cases hn:k.val<0
 ·have e1:(Rng.w .i64 (0-k.val)).val=0-k.val:=wi (by omega) (by omega)
  obtain ⟨x,h1,h2,h3⟩:=turn_p (.w .i64 (0-k.val)) (by omega) (by omega)
  have g1:zdK (.w .i64 (0-k.val))=true:=by unfold zdK;rw [h1];rfl
  have g2:G_impl_TurnI_p (.w .i64 (0-k.val))=true:=by unfold G_impl_TurnI_p;rw [h2];rfl
  have f1:zbo (.w .i64 (0-k.val))=x:=Tr.zaB h1
  have f2:F_impl_TurnI_p (.w .i64 (0-k.val))=x:=Tr.zaB h2
  have e0:(k.val==0)=false:=by simp;omega
  have hd:decide (k.val<0)=true:=by simpa using hn
  refine ⟨zaQ x,?_,?_,by rw [neg_isok,h3]⟩
  ·simp only [zcf,Tr.opt,e0,hd,g1,f1,cond_true,cond_false,neg_ok_val h3]
  ·simp only [zdp,Tr.opt,hw,hd,g2,f2,cond_true,cond_false,Bool.not_true,neg_eq]
 ·obtain ⟨x,h1,h2,h3⟩:=turn_p k (by omega) h'
  have hd:decide (k.val<0)=false:=by simpa using hn
  refine ⟨x,?_,?_,h3⟩
  ·simp only [zcB,Tr.opt,hd] at h1
   simp only [zcf,Tr.opt,hd]
   exact h1
  ·simp only [zdO,Tr.opt,hd,hw] at h2
   simp only [zdp,Tr.opt,hd,hw]
   exact h2
theorem turnI_ok (k:I64):∃x:Iv,(t_spec_TurnI k).opt=some x/\(zdp k).opt=some x:=by
 by_cases h: -4096<=k.val/\k.val<=4096
 ·obtain ⟨x,h1,h2,h3⟩:=turn_ok k h.1 h.2
  have hi:zV k ⟨(-4096),rfl⟩ ⟨4096,rfl⟩=true:=by rw [zed];simpa using h
  have g:zdQ k=true:=by unfold zdQ;rw [h1];rfl
  have f:zbz k=x:=Tr.zaB h1
  exact ⟨x,by simp only [t_spec_TurnI,Tr.opt,hi,g,f,Bool.not_true,cond_false,cond_true],h2⟩
 ·have hi:zV k ⟨(-4096),rfl⟩ ⟨4096,rfl⟩=false:=by rw [zed];simpa using h
  have hw:zal k ⟨(-4096),rfl⟩ ⟨4096,rfl⟩=false:=by rw [zct];simpa using h
  exact ⟨zn,by simp only [t_spec_TurnI,Tr.opt,hi,Bool.not_false,cond_true,zeT],by simp only [zdp,Tr.opt,hw,Bool.not_false,cond_true,zb3]⟩
theorem tt_turnI_impl (k:I64):(zdp k).opt=some (zdt k):=by
 obtain ⟨x,_,h1⟩:=turnI_ok k;exact opt_self h1
theorem turnI_eq (k:I64):zdt k=za2 k:=by
 obtain ⟨x,h1,h2⟩:=turnI_ok k
 exact (Tr.zaB h2).trans (Tr.zaB h1).symm
theorem quarter_ok (n:I64):(ze6 n).opt=some (zbr n):=by
 simp only [ze6,Tr.opt,zbr,zdF,Tr.get,angle_eq]
 cases ha:zaK n
 ·rfl
 have hb:=(angle_iff n).1 ha
 have e1:(Rng.w .i64 (n.val+3373259426)).val=n.val+3373259426:=wi (by omega) (by omega)
 have hs:Int.sign 6746518852=1:=rfl
 have q1:(Rng.w .i64 ((n.val+3373259426).tdiv 6746518852)).val=(n.val+3373259426).tdiv 6746518852:=by
  refine wi ?_ ?_
  ·have:=Int.tdiv_eq_ediv (a:=n.val+3373259426) (b:=6746518852);split at this<;>omega
  ·have:=Int.tdiv_eq_ediv (a:=n.val+3373259426) (b:=6746518852);split at this<;>omega
 have hm:=Int.mul_tdiv_add_tmod (n.val+3373259426) 6746518852
 have m1:(Rng.w .i64 ((n.val+3373259426).tmod 6746518852)).val=(n.val+3373259426).tmod 6746518852:=by
  refine wi ?_ ?_
  ·have:=Int.tdiv_eq_ediv (a:=n.val+3373259426) (b:=6746518852);split at this<;>omega
  ·have:=Int.tdiv_eq_ediv (a:=n.val+3373259426) (b:=6746518852);split at this<;>omega
 have q2:(Rng.w .i64 ((n.val+3373259426).tdiv 6746518852*6746518852)).val=(n.val+3373259426).tdiv 6746518852*6746518852:=by
  refine wi ?_ ?_
  ·have:=Int.tdiv_eq_ediv (a:=n.val+3373259426) (b:=6746518852);split at this<;>omega
  ·have:=Int.tdiv_eq_ediv (a:=n.val+3373259426) (b:=6746518852);split at this<;>omega
 have z:((6746518852:Int)==0)=false:=rfl
 simp only [Bool.not_true,cond_false,G_spec_l06Floor,F_spec_l06Floor,zfx,Tr.opt,Tr.get,e1,q1,m1,q2,z,cond_false]
 by_cases hc:(n.val+3373259426).tmod 6746518852<0
 ·have hc':(n.val+3373259426).tdiv 6746518852*6746518852>n.val+3373259426:=by omega
  simp only [hc,hc',decide_true,cond_true,Option.isSome_some]
 ·have hc':¬(n.val+3373259426).tdiv 6746518852*6746518852>n.val+3373259426:=by omega
  simp only [hc,hc',decide_false,cond_false,cond_true,Option.isSome_some]
theorem zfY (n:I64):zbr n=zad n:=(Tr.zaB (quarter_ok n)).symm
theorem quarter_bd (n:I64): -200<=(zad n).val/\(zad n).val<=200:=by
 rw [<- zfY]
 simp only [zbr,zdF,Tr.get,angle_eq]
 cases ha:zaK n
 ·simp only [Bool.not_false,cond_true];omega
 have hb:=(angle_iff n).1 ha
 have e1:(Rng.w .i64 (n.val+3373259426)).val=n.val+3373259426:=wi (by omega) (by omega)
 have hs:Int.sign 6746518852=1:=rfl
 have hq: -170<=(n.val+3373259426).tdiv 6746518852/\(n.val+3373259426).tdiv 6746518852<=170:=by
  have:=Int.tdiv_eq_ediv (a:=n.val+3373259426) (b:=6746518852);split at this<;>omega
 have q1:(Rng.w .i64 ((n.val+3373259426).tdiv 6746518852)).val=(n.val+3373259426).tdiv 6746518852:=wi (by omega) (by omega)
 simp only [Bool.not_true,cond_false,e1,q1]
 cases decide ((Rng.w .i64 ((n.val+3373259426).tdiv 6746518852*6746518852)).val>n.val+3373259426)
 ·simp only [cond_false,q1];omega
 ·simp only [cond_true];rw [wi (by omega) (by omega)];omega
end Go.Proofs.YtlolpmmloolieaaGreatDoor.Ev
namespace Go.Proofs.YtlolpmmloolieaaGreatDoor.Ev
open Go Go.RowKit
set_option maxRecDepth 100000
section
variable [Amb]
def ET_impl_TurnI:Ent Tryz.prog:= .of1 Tb134 B134 (fun _=>true) zdt fun a0 _=>(r_impl_TurnI a0).trans (tt_turnI_impl a0)
def B133:Bod Tryz.prog:=⟨133,Tryz.f133,Tryz.f133.body.getD .skip,Tryz.func133,by kernel_rfl,by kernel_rfl,zai.no _ _⟩
def Tb133:Tb Tryz.prog:= {T:= [Y2,Y33],mix:=mix,Es:= [],Bs:= [],d:=1}
def t_impl_at (a0:I64):Tr (Iv):=
 .leaf ⟨a0,a0⟩
theorem r_impl_at (a0:I64):Tb133.run B133 [enc a0] (Iv)=(t_impl_at a0).opt:=by kernel_rfl
def F_impl_at:I64->Iv:=fun a0=>(t_impl_at a0).get
theorem u_impl_at (a0:I64):(t_impl_at a0).opt=some (F_impl_at a0):=Tr.zW (by kernel_rfl)
def E_impl_at:Ent Tryz.prog:= .of1 Tb133 B133 (fun _=>true) F_impl_at fun a0 _=>(r_impl_at a0).trans (u_impl_at a0)
def B110:Bod Tryz.prog:=⟨110,Tryz.f110,Tryz.f110.body.getD .skip,Tryz.func110,by kernel_rfl,by kernel_rfl,zai.no _ _⟩
def Tb110:Tb Tryz.prog:= {T:= [Y2,Y33],mix:=mix,Es:= [E_impl_SubI,E_impl_NegI,E_impl_ring,E_impl_isAngle,E_impl_QuarterOf,E_impl_at,ET_impl_TurnI,E_impl_inRing,E_impl_SinSeries,E_impl_CosSeries],Bs:= [],d:=1}
def zdZ (a0:I64) (a1:I64):Tr (Iv):=
 .br (!(zci a0)) (.leaf zc0) (let c3:=zbr a0;let c6:=zaT (F_impl_at a0) (zdt c3);let c8:=(Rng.w .i64 (zaN .and .i64 (Rng.w .i64 (c3.val+a1.val)).val 3));.br (c8.val==0) (.leaf (zbq (zcF c6))) (.br (c8.val==1) (.leaf (zbq (zcG c6))) (.br (c8.val==2) (.leaf (zbq (zdA (zcF c6)))) (.leaf (zbq (zdA (zcG c6)))))))
theorem r_impl_circleValue (a0:I64) (a1:I64):Tb110.run B110 [enc a0,enc a1] (Iv)=(zdZ a0 a1).opt:=by kernel_rfl
def zb7:I64->I64->Iv:=fun a0 a1=>(zdZ a0 a1).get
theorem u_impl_circleValue (a0:I64) (a1:I64):(zdZ a0 a1).opt=some (zb7 a0 a1):=Tr.zW (by kernel_rfl)
def E_impl_circleValue:Ent Tryz.prog:= .of2 Tb110 B110 (fun _ _=>true) zb7 fun a0 a1 _=>(r_impl_circleValue a0 a1).trans (u_impl_circleValue a0 a1)
def t_spec_l05At (a0:I64):Tr (Iv):=
 .leaf ⟨a0,a0⟩
def F_spec_l05At:I64->Iv:=fun a0=>(t_spec_l05At a0).get
def t_spec_l06At (a0:I64) (a1:I64):Tr (Iv):=
 .br (!(zaK a0)) (.leaf zH) (let c3:=zad a0;let c6:=zO (F_spec_l05At a0) (za2 c3);let c8:=(Rng.w .i64 (zaN .and .i64 (Rng.w .i64 (c3.val+a1.val)).val 3));.br (c8.val==0) (.leaf (zam (zaR c6))) (.br (c8.val==1) (.leaf (zam (zaS c6))) (.br (c8.val==2) (.leaf (zam (zaQ (zaR c6)))) (.leaf (zam (zaQ (zaS c6)))))))
def zbl:I64->I64->Iv:=fun a0 a1=>(t_spec_l06At a0 a1).get
structure zcD where
 x0:I64
 x1:I64
 x2:I64
 x3:I64
 x4:I64
 x5:I64
 x6:I64
 x7:I64
instance:Inhabited zcD:=⟨⟨default,default,default,default,default,default,default,default⟩⟩
def zdJ (x:zcD):Tr (Lp zcD):=
 .br (decide (x.x1.val<=(Rng.w .i64 ((zad x.x3).val+1)).val)) (.br (!(zat (za2 x.x1) ⟨x.x2,x.x3⟩)) (.leaf (.again ⟨x.x0,(Rng.w .i64 (x.x1.val+1)),x.x2,x.x3,x.x4,x.x5,x.x6,x.x7⟩)) (let c15:=(Rng.w .i64 (zaN .and .i64 (Rng.w .i64 (x.x1.val+x.x0.val)).val 3));.br (c15.val==1) (let c17:=zaY ⟨x.x6,x.x7⟩ (zA ⟨1,rfl⟩);.leaf (.again ⟨x.x0,(Rng.w .i64 (x.x1.val+1)),x.x2,x.x3,x.x4,x.x5,c17.lo,c17.hi⟩)) (.br (c15.val==3) (let c20:=zaY ⟨x.x6,x.x7⟩ (zA ⟨(-1),rfl⟩);.leaf (.again ⟨x.x0,(Rng.w .i64 (x.x1.val+1)),x.x2,x.x3,x.x4,x.x5,c20.lo,c20.hi⟩)) (.leaf (.again ⟨x.x0,(Rng.w .i64 (x.x1.val+1)),x.x2,x.x3,x.x4,x.x5,x.x6,x.x7⟩))))) (.leaf (.out ⟨x.x0,x.x1,x.x2,x.x3,x.x4,x.x5,x.x6,x.x7⟩))
def G_spec_l06Over_5 (x:zcD):Bool:=(Lf zdJ 1000 x).opt.isSome
def L_spec_l06Over_5 (x:zcD):zcD:=(Lf zdJ 1000 x).get
def t_spec_l06Over (a0:Iv) (a1:I64):Tr (Iv):=
 .br (!(zdS a0)) (.leaf zH) (let c5:=zaY (zbl a0.lo a1) (zbl a0.hi a1);let c7:=(Rng.w .i64 ((zad a0.lo).val-1));.br (G_spec_l06Over_5 ⟨a1,c7,a0.lo,a0.hi,⟨0,rfl⟩,⟨0,rfl⟩,c5.lo,c5.hi⟩) (let c23:=L_spec_l06Over_5 ⟨a1,c7,a0.lo,a0.hi,⟨0,rfl⟩,⟨0,rfl⟩,c5.lo,c5.hi⟩;.leaf ⟨c23.x6,c23.x7⟩) (.bad))
def F_spec_l06Over:Iv->I64->Iv:=fun a0 a1=>(t_spec_l06Over a0 a1).get
end
end Go.Proofs.YtlolpmmloolieaaGreatDoor.Ev
