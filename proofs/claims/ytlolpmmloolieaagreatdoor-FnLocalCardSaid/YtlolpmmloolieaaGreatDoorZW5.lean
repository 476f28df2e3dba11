/- The law FnLocal gives true, whatever bytes come in, where the listed tables hold what the program's text lays. The card: the tables tied to the text. No other conditions. (One of the texts of its proof, put together by a program of this session.) -/
import Derived.Test.YtlolpmmloolieaaGreatDoorZW2
import Derived.Test.YtlolpmmloolieaaGreatDoorZPT
set_option linter.unusedSectionVars false
set_option linter.unusedSimpArgs false
set_option linter.unusedVariables false
noncomputable section
namespace Go.Proofs.YtlolpmmloolieaaGreatDoor.Ev
open Go Go.RowKit
set_option maxRecDepth 100000
section
variable [Amb]
def B26:Bod Tryz.prog:=⟨26,Tryz.f26,Tryz.f26.body.getD .skip,Tryz.func26,by kernel_rfl,by kernel_rfl,zai.no _ _⟩
def Tb26:Tb Tryz.prog:= {T:= [Y2,Y33],mix:=mix,Es:= [E_impl_circleHull],Bs:= [],d:=1}
def t_impl_CosI (a0:Iv):Tr (Iv):=
 .leaf (zaA a0 ⟨1,rfl⟩)
theorem r_impl_CosI (a0:Iv):Tb26.run B26 [enc a0] (Iv)=(t_impl_CosI a0).opt:=by kernel_rfl
def zc1:Iv->Iv:=fun a0=>(t_impl_CosI a0).get
theorem u_impl_CosI (a0:Iv):(t_impl_CosI a0).opt=some (zc1 a0):=Tr.zW (by kernel_rfl)
def E_impl_CosI:Ent Tryz.prog:= .of1 Tb26 B26 (fun _=>true) zc1 fun a0 _=>(r_impl_CosI a0).trans (u_impl_CosI a0)
def B27:Bod Tryz.prog:=⟨27,Tryz.f27,Tryz.f27.body.getD .skip,Tryz.func27,by kernel_rfl,by kernel_rfl,zai.no _ _⟩
def Tb27:Tb Tryz.prog:= {T:= [Y2,Y33],mix:=mix,Es:= [E_impl_circleHull],Bs:= [],d:=1}
def t_impl_SinI (a0:Iv):Tr (Iv):=
 .leaf (zaA a0 ⟨0,rfl⟩)
theorem r_impl_SinI (a0:Iv):Tb27.run B27 [enc a0] (Iv)=(t_impl_SinI a0).opt:=by kernel_rfl
def zcw:Iv->Iv:=fun a0=>(t_impl_SinI a0).get
theorem u_impl_SinI (a0:Iv):(t_impl_SinI a0).opt=some (zcw a0):=Tr.zW (by kernel_rfl)
def E_impl_SinI:Ent Tryz.prog:= .of1 Tb27 B27 (fun _=>true) zcw fun a0 _=>(r_impl_SinI a0).trans (u_impl_SinI a0)
def t_spec_CosI (a0:Iv):Tr (Iv):=
 .leaf (F_spec_l06Over a0 ⟨1,rfl⟩)
def zbi:Iv->Iv:=fun a0=>(t_spec_CosI a0).get
def t_spec_SinI (a0:Iv):Tr (Iv):=
 .leaf (F_spec_l06Over a0 ⟨0,rfl⟩)
def za9:Iv->Iv:=fun a0=>(t_spec_SinI a0).get
end
end Go.Proofs.YtlolpmmloolieaaGreatDoor.Ev
namespace Go.Proofs.YtlolpmmloolieaaGreatDoor.Ev
open Go
theorem quot_eq (a b:I64):zbH a b=zbE a b:=(q_F_impl a b).trans (q_F_spec a b).symm
theorem radians_eq (n:I64):zdM n=zX n:=by
 have h:=rad_eq n
 have h2:=tt_rad_spec n
 have h1:=tt_rad_impl n
 rw [h.1,h2] at h1
 exact (Option.some.inj h1).symm
theorem cosI_eq (x:Iv):zc1 x=zbi x:=by simp only [zc1,t_impl_CosI,zbi,t_spec_CosI,Tr.get,over_eq]
theorem sinI_eq (x:Iv):zcw x=za9 x:=by simp only [zcw,t_impl_SinI,za9,t_spec_SinI,Tr.get,over_eq]
theorem turn_in {k:I64} (h: -4096<=k.val) (h':k.val<=4096):zdQ k=true/\za2 k=zbz k:=by
 obtain ⟨x,h1,h2,h3⟩:=turn_ok k h h'
 have g:zdQ k=true:=by unfold zdQ;rw [h1];rfl
 have hi:zV k ⟨(-4096),rfl⟩ ⟨4096,rfl⟩=true:=by rw [zed];simpa using ⟨h,h'⟩
 exact ⟨g,by simp only [za2,t_spec_TurnI,Tr.get,hi,g,Bool.not_true,cond_false,cond_true]⟩
end Go.Proofs.YtlolpmmloolieaaGreatDoor.Ev
namespace Go.Proofs.YtlolpmmloolieaaGreatDoor.Ev
open Go Go.RowKit
set_option maxRecDepth 100000
section
variable [Amb]
def B93:Bod Tryz.prog:=⟨93,Tryz.f93,Tryz.f93.body.getD .skip,Tryz.func93,by kernel_rfl,by kernel_rfl,zai.no _ _⟩
def Tb93:Tb Tryz.prog:= {T:= [Y2,Y33],mix:=mix,Es:= [E_spec_l04Ok,zfR,E_spec_l04Ends,E_spec_l04Make],Bs:= [],d:=1}
def t_spec_AbsI (a0:Iv):Tr (Iv):=
 .br (!(za a0)) (.leaf zn) (let c3:=zF a0;.leaf (zaf c3.a c3.b))
theorem r_spec_AbsI (a0:Iv):Tb93.run B93 [enc a0] (Iv)=(t_spec_AbsI a0).opt:=by kernel_rfl
def zfl:Iv->Iv:=fun a0=>(t_spec_AbsI a0).get
theorem u_spec_AbsI (a0:Iv):(t_spec_AbsI a0).opt=some (zfl a0):=Tr.zW (by kernel_rfl)
def E_spec_AbsI:Ent Tryz.prog:= .of1 Tb93 B93 (fun _=>true) zfl fun a0 _=>(r_spec_AbsI a0).trans (u_spec_AbsI a0)
def B45:Bod Tryz.prog:=⟨45,Tryz.f45,Tryz.f45.body.getD .skip,Tryz.func45,by kernel_rfl,by kernel_rfl,zai.no _ _⟩
def Tb45:Tb Tryz.prog:= {T:= [Y33],mix:=mix,Es:= [E_spec_l04Ok],Bs:= [],d:=1}
def t_spec_IsWhole (a0:Iv):Tr (Bool):=
 .leaf (!(za a0))
theorem r_spec_IsWhole (a0:Iv):Tb45.run B45 [enc a0] (Bool)=(t_spec_IsWhole a0).opt:=by kernel_rfl
def zcZ:Iv->Bool:=fun a0=>(t_spec_IsWhole a0).get
theorem u_spec_IsWhole (a0:Iv):(t_spec_IsWhole a0).opt=some (zcZ a0):=Tr.zW (by kernel_rfl)
def E_spec_IsWhole:Ent Tryz.prog:= .of1 Tb45 B45 (fun _=>true) zcZ fun a0 _=>(r_spec_IsWhole a0).trans (u_spec_IsWhole a0)
def B47:Bod Tryz.prog:=⟨47,Tryz.f47,Tryz.f47.body.getD .skip,Tryz.func47,by kernel_rfl,by kernel_rfl,zai.no _ _⟩
def Tb47:Tb Tryz.prog:= {T:= [Y2,Y33],mix:=mix,Es:= [E_spec_AbsI],Bs:= [],d:=1}
def t_spec_l10Ends (a0:Iv):Tr (T2 I64 I64):=
 let c1:=zfl a0;.leaf ⟨c1.lo,c1.hi⟩
theorem r_spec_l10Ends (a0:Iv):Tb47.run B47 [enc a0] (T2 I64 I64)=(t_spec_l10Ends a0).opt:=by kernel_rfl
def zdR:Iv->T2 I64 I64:=fun a0=>(t_spec_l10Ends a0).get
theorem u_spec_l10Ends (a0:Iv):(t_spec_l10Ends a0).opt=some (zdR a0):=Tr.zW (by kernel_rfl)
def E_spec_l10Ends:Ent Tryz.prog:= .of1 Tb47 B47 (fun _=>true) zdR fun a0 _=>(r_spec_l10Ends a0).trans (u_spec_l10Ends a0)
def B49:Bod Tryz.prog:=⟨49,Tryz.f49,Tryz.f49.body.getD .skip,Tryz.func49,by kernel_rfl,by kernel_rfl,zai.no _ _⟩
def Tb49:Tb Tryz.prog:= {T:= [Y2,Y75,Y78],mix:=mix,Es:= [E_spec_l02Mul,E_spec_l02Plus],Bs:= [],d:=1}
def t_spec_l10Sum (a0:I64) (a1:I64) (a2:I64):Tr (Wide):=
 .leaf (zbc (zbc (zbD a0 a0) (zbD a1 a1)) (zbD a2 a2))
theorem r_spec_l10Sum (a0:I64) (a1:I64) (a2:I64):Tb49.run B49 [enc a0,enc a1,enc a2] (Wide)=(t_spec_l10Sum a0 a1 a2).opt:=by kernel_rfl
def zeA:I64->I64->I64->Wide:=fun a0 a1 a2=>(t_spec_l10Sum a0 a1 a2).get
theorem u_spec_l10Sum (a0:I64) (a1:I64) (a2:I64):(t_spec_l10Sum a0 a1 a2).opt=some (zeA a0 a1 a2):=Tr.zW (by kernel_rfl)
def E_spec_l10Sum:Ent Tryz.prog:= .of3 Tb49 B49 (fun _ _ _=>true) zeA fun a0 a1 a2 _=>(r_spec_l10Sum a0 a1 a2).trans (u_spec_l10Sum a0 a1 a2)
def Y37:TyE Tryz.prog:=⟨37,6,(.struct [(0,33,2),(2,33,2),(4,33,2)]),[.i64 ⟨0,rfl⟩,.i64 ⟨0,rfl⟩,.i64 ⟨0,rfl⟩,.i64 ⟨0,rfl⟩,.i64 ⟨0,rfl⟩,.i64 ⟨0,rfl⟩],false,by kernel_rfl,by kernel_rfl,by kernel_rfl,by kernel_rfl,by kernel_rfl,by kernel_rfl⟩
def B14:Bod Tryz.prog:=⟨14,Tryz.f14,Tryz.f14.body.getD .skip,Tryz.func14,by kernel_rfl,by kernel_rfl,zai.no _ _⟩
def Tb14:Tb Tryz.prog:= {T:= [Y2,Y33,Y37,Y75,Y78],mix:=mix,Es:= [E_spec_IsWhole,E_spec_Whole,E_spec_l10Ends,ET_spec_l02Root,E_spec_l10Sum,E_spec_l02Mul],Bs:= [],d:=1}
def t_spec_NormV (a0:Vec):Tr (Iv):=
 .br (zcZ a0.x) (.leaf za8) (.br (zcZ a0.y) (.leaf za8) (.br (zcZ a0.z) (.leaf za8) (let c7:=zdR a0.x;let c8:=zdR a0.y;let c9:=zdR a0.z;let c11:=zq (zeA c7.a c8.a c9.a);let c12:=zeA c7.b c8.b c9.b;let c13:=zq c12;let c14:=zbD (Rng.w .i64 (c13.val)) (Rng.w .i64 (c13.val));.br (!((c14.hi.val==c12.hi.val)&&((c14.lo.val==c12.lo.val)&&true))) (let c16:=(Rng.w .i64 ((Rng.w .i64 (c13.val)).val+1));.br (decide (c16.val>=1152921504606846976)) (.leaf za8) (.leaf ⟨(Rng.w .i64 (c11.val)),c16⟩)) (.br (decide ((Rng.w .i64 (c13.val)).val>=1152921504606846976)) (.leaf za8) (.leaf ⟨(Rng.w .i64 (c11.val)),(Rng.w .i64 (c13.val))⟩)))))
theorem r_spec_NormV (a0:Vec):Tb14.run B14 [enc a0] (Iv)=(t_spec_NormV a0).opt:=by kernel_rfl
def za3:Vec->Iv:=fun a0=>(t_spec_NormV a0).get
theorem u_spec_NormV (a0:Vec):(t_spec_NormV a0).opt=some (za3 a0):=Tr.zW (by kernel_rfl)
def E_spec_NormV:Ent Tryz.prog:= .of1 Tb14 B14 (fun _=>true) za3 fun a0 _=>(r_spec_NormV a0).trans (u_spec_NormV a0)
def B100:Bod Tryz.prog:=⟨100,Tryz.f100,Tryz.f100.body.getD .skip,Tryz.func100,by kernel_rfl,by kernel_rfl,zai.no _ _⟩
def Tb100:Tb Tryz.prog:= {T:= [Y2,Y75,Y78],mix:=mix,Es:= [E_math_bits_Add64],Bs:= [],d:=1}
def zcW (a0:Wide) (a1:Wide):Tr (T2 Wide Bool):=
 let c1:=zan a0.lo a1.lo ⟨0,rfl⟩;.br (G_carry (Rng.w .u64 (a0.hi.val)) (Rng.w .u64 (a1.hi.val)) c1.b) (let c2:=zan (Rng.w .u64 (a0.hi.val)) (Rng.w .u64 (a1.hi.val)) c1.b;.br (decide ((Rng.w .i64 (zaN .and .i64 (Rng.w .i64 (zaN .xor .i64 a0.hi.val (Rng.w .i64 (c2.a.val)).val)).val (Rng.w .i64 (zaN .xor .i64 a1.hi.val (Rng.w .i64 (c2.a.val)).val)).val)).val<0)) (.leaf ⟨⟨⟨0,rfl⟩,⟨0,rfl⟩⟩,false⟩) (.leaf ⟨⟨(Rng.w .i64 (c2.a.val)),c1.a⟩,true⟩)) (.bad)
theorem r_impl_WideAdd (a0:Wide) (a1:Wide):Tb100.run B100 [enc a0,enc a1] (T2 Wide Bool)=(zcW a0 a1).opt:=by kernel_rfl
def zeZ:Wide->Wide->T2 Wide Bool:=fun a0 a1=>(zcW a0 a1).get
def zcY:Wide->Wide->Bool:=fun a0 a1=>(zcW a0 a1).opt.isSome
def E_impl_WideAdd:Ent Tryz.prog:= .of2 Tb100 B100 zcY zeZ fun a0 a1 h=>(r_impl_WideAdd a0 a1).trans (Tr.get_some h)
def B60:Bod Tryz.prog:=⟨60,Tryz.f60,Tryz.f60.body.getD .skip,Tryz.func60,by kernel_rfl,by kernel_rfl,zai.no _ _⟩
def Tb60:Tb Tryz.prog:= {T:= [Y2,Y75,Y78],mix:=mix,Es:= [E_impl_WideAdd,zdX,ET_impl_WideSqrt],Bs:= [],d:=1}
def zca (a0:I64) (a1:I64) (a2:I64):Tr (T2 I64 I64):=
 let c1:=zaW a0 a0;let c2:=zaW a1 a1;.br (zcY c1 c2) (let c3:=zeZ c1 c2;let c4:=zaW a2 a2;.br (zcY c3.a c4) (let c5:=zeZ c3.a c4;let c6:=zb0 c5.a;let c7:=zaW (Rng.w .i64 (c6.a.val)) (Rng.w .i64 (c6.a.val));.br (!((c7.hi.val==c5.a.hi.val)&&((c7.lo.val==c5.a.lo.val)&&true))) (.leaf ⟨(Rng.w .i64 (c6.a.val)),(Rng.w .i64 ((Rng.w .i64 (c6.a.val)).val+1))⟩) (.leaf ⟨(Rng.w .i64 (c6.a.val)),(Rng.w .i64 (c6.a.val))⟩)) (.bad)) (.bad)
theorem r_impl_rootOfSquares (a0:I64) (a1:I64) (a2:I64):Tb60.run B60 [enc a0,enc a1,enc a2] (T2 I64 I64)=(zca a0 a1 a2).opt:=by kernel_rfl
def zcc:I64->I64->I64->T2 I64 I64:=fun a0 a1 a2=>(zca a0 a1 a2).get
def zbh:I64->I64->I64->Bool:=fun a0 a1 a2=>(zca a0 a1 a2).opt.isSome
def E_impl_rootOfSquares:Ent Tryz.prog:= .of3 Tb60 B60 zbh zcc fun a0 a1 a2 h=>(r_impl_rootOfSquares a0 a1 a2).trans (Tr.get_some h)
def B21:Bod Tryz.prog:=⟨21,Tryz.f21,Tryz.f21.body.getD .skip,Tryz.func21,by kernel_rfl,by kernel_rfl,zai.no _ _⟩
def Tb21:Tb Tryz.prog:= {T:= [Y2,Y33,Y37],mix:=mix,Es:= [zcs,zcl,zaq,E_impl_AbsI,E_impl_rootOfSquares,zck],Bs:= [],d:=1}
def t_impl_NormV (a0:Vec):Tr (Iv):=
 .br (!(za0 a0.x a0.y)) (.leaf zJ) (.br (zah a0.z) (.leaf zJ) (let c5:=zc2 a0.x;let c6:=zc2 a0.y;let c7:=zc2 a0.z;.br (zbh c5.lo c6.lo c7.lo) (.br (zbh c5.hi c6.hi c7.hi) (.leaf (zaF (zcc c5.lo c6.lo c7.lo).a (zcc c5.hi c6.hi c7.hi).b true)) (.bad)) (.bad)))
theorem r_impl_NormV (a0:Vec):Tb21.run B21 [enc a0] (Iv)=(t_impl_NormV a0).opt:=by kernel_rfl
def F_impl_NormV:Vec->Iv:=fun a0=>(t_impl_NormV a0).get
def B36:Bod Tryz.prog:=⟨36,Tryz.f36,Tryz.f36.body.getD .skip,Tryz.func36,by kernel_rfl,by kernel_rfl,zai.no _ _⟩
def Tb36:Tb Tryz.prog:= {T:= [Y2,Y33],mix:=mix,Es:= [zcs],Bs:= [],d:=1}
def t_impl_LessI (a0:Iv) (a1:Iv):Tr (I64):=
 .br (!(za0 a0 a1)) (.leaf ⟨2,rfl⟩) (.br (decide (a0.hi.val<a1.lo.val)) (.leaf ⟨1,rfl⟩) (.br (decide (a0.lo.val>=a1.hi.val)) (.leaf ⟨0,rfl⟩) (.leaf ⟨2,rfl⟩)))
theorem r_impl_LessI (a0:Iv) (a1:Iv):Tb36.run B36 [enc a0,enc a1] (I64)=(t_impl_LessI a0 a1).opt:=by kernel_rfl
def F_impl_LessI:Iv->Iv->I64:=fun a0 a1=>(t_impl_LessI a0 a1).get
theorem u_impl_LessI (a0:Iv) (a1:Iv):(t_impl_LessI a0 a1).opt=some (F_impl_LessI a0 a1):=Tr.zW (by kernel_rfl)
def E_impl_LessI:Ent Tryz.prog:= .of2 Tb36 B36 (fun _ _=>true) F_impl_LessI fun a0 a1 _=>(r_impl_LessI a0 a1).trans (u_impl_LessI a0 a1)
def t_spec_LessI (a0:Iv) (a1:Iv):Tr (I64):=
 .br (!(za a0)) (.leaf ⟨2,rfl⟩) (.br (!(za a1)) (.leaf ⟨2,rfl⟩) (.br (decide (a0.hi.val<a1.lo.val)) (.leaf ⟨1,rfl⟩) (.br (decide (a0.lo.val>=a1.hi.val)) (.leaf ⟨0,rfl⟩) (.leaf ⟨2,rfl⟩))))
def zcP:Iv->Iv->I64:=fun a0 a1=>(t_spec_LessI a0 a1).get
structure S_spec_LogAt_5 where
 x0:I64
 x1:I64
 x2:I64
 x3:I64
 x4:I64
 x5:I64
instance:Inhabited S_spec_LogAt_5:=⟨⟨default,default,default,default,default,default⟩⟩
structure S_spec_LogAt_8 where
 x0:I64
 x1:I64
 x2:I64
 x3:I64
 x4:I64
 x5:I64
instance:Inhabited S_spec_LogAt_8:=⟨⟨default,default,default,default,default,default⟩⟩
end
end Go.Proofs.YtlolpmmloolieaaGreatDoor.Ev
namespace Go.Proofs.YtlolpmmloolieaaGreatDoor.Ev
open Go
theorem ctr {α:Type} (a b:α):(bif true then a else b)=a:=by simp
theorem cfl {α:Type} (a b:α):(bif false then a else b)=b:=by simp
theorem siw_eq (a:Iv):zcZ a= !(za a):=by simp only [zcZ,t_spec_IsWhole,Tr.get]
theorem less_eq (a b:Iv):F_impl_LessI a b=zcP a b:=by
 simp only [F_impl_LessI,t_impl_LessI,zcP,t_spec_LessI,Tr.get,areb_eq]
 cases za a<;>cases za b<;>rfl
theorem abs_ends {a:Iv} (h:za a=true):zc2 a=⟨(zF a).a,(zF a).b⟩:=by
 simp only [zc2,t_impl_AbsI,zF,zcU,Tr.get,isw_eq,h,Bool.not_true,cond_false,has_eq a _ h,max_eq,min_eq,zfr,t_impl_abs]
 cases zaL a ⟨0,rfl⟩<;>rfl
theorem abs_make {a:Iv} (h:za a=true):zfl a=⟨(zF a).a,(zF a).b⟩:=by
 simp only [zfl,t_spec_AbsI,Tr.get,h,Bool.not_true,cond_false]
 obtain ⟨p,q,e,h1,h2,h3⟩:=zfH h
 have:=(zbW a).1 h
 rw [e]
 exact zcX (by simp only;omega)
theorem ends_eq (a:Iv):zdR a=⟨(zfl a).lo,(zfl a).hi⟩:=rfl
theorem plus_spec (a b:Wide) (h: -170141183460469231731687303715884105728<=wv a+wv b/\wv a+wv b<170141183460469231731687303715884105728):zbc a b=mkW (wv a+wv b):=by
 have ba:=a.lo.ubd;have bb:=b.lo.ubd
 have ha:=a.hi.bd;have hb:=b.hi.bd
 apply mkW_eq
 simp only [wv] at h
 simp only [zbc,zdN,Tr.get]
 have e2:(Rng.w .u64 (a.lo.val+b.lo.val)).val=(a.lo.val+b.lo.val)%18446744073709551616:=zaJ _
 simp only [e2]
 by_cases hc:(a.lo.val+b.lo.val)%18446744073709551616<a.lo.val
 ·simp only [hc,decide_true,cond_true,wv,e2]
  rw [zc7,zc7]
  omega
 ·simp only [hc,decide_false,cond_false,wv,e2]
  rw [zc7]
  omega
theorem xor_pos {a b:Int} (ha:0<=a/\a<=9223372036854775807) (hb:0<=b/\b<=9223372036854775807):0<=(Rng.w .i64 (zaN .xor .i64 a b)).val/\(Rng.w .i64 (zaN .xor .i64 a b)).val<=9223372036854775807:=by
 have e:zaN .xor .i64 a b=((BitVec.ofInt 64 a ^^^ BitVec.ofInt 64 b).toNat:Int):=rfl
 have h1:(BitVec.ofInt 64 a).toNat<2^63:=by rw [bv_toNat ha.1 (by omega)];omega
 have h2:(BitVec.ofInt 64 b).toNat<2^63:=by rw [bv_toNat hb.1 (by omega)];omega
 have h3:(BitVec.ofInt 64 a ^^^ BitVec.ofInt 64 b).toNat<2^63:=by rw [BitVec.toNat_xor];exact Nat.xor_lt_two_pow h1 h2
 rw [e,wi (by omega) (by omega)];omega
theorem and_pos {a b:Int} (ha:0<=a/\a<=9223372036854775807) (hb:0<=b/\b<=9223372036854775807):0<=(Rng.w .i64 (zaN .and .i64 a b)).val:=by
 have e:zaN .and .i64 a b=((BitVec.ofInt 64 a &&& BitVec.ofInt 64 b).toNat:Int):=rfl
 have h2:(BitVec.ofInt 64 b).toNat<2^63:=by rw [bv_toNat hb.1 (by omega)];omega
 have h3:(BitVec.ofInt 64 a &&& BitVec.ofInt 64 b).toNat<2^63:=by rw [BitVec.toNat_and];exact Nat.lt_of_le_of_lt Nat.and_le_right h2
 rw [e,wi (by omega) (by omega)];omega
theorem add_impl (a b:Wide) (ha:0<=wv a) (hb:0<=wv b) (h:wv a+wv b<170141183460469231731687303715884105728):(zcW a b).opt=some ⟨mkW (wv a+wv b),true⟩:=by
 have ba:=a.lo.ubd;have bb:=b.lo.ubd
 have ha':=a.hi.bd;have hb':=b.hi.bd
 have hwv:wv a+wv b=(a.hi.val+b.hi.val)*18446744073709551616+(a.lo.val+b.lo.val):=by simp only [wv];omega
 have pa:0<=a.hi.val:=by simp only [wv] at ha;omega
 have pb:0<=b.hi.val:=by simp only [wv] at hb;omega
 have ec:(zan a.lo b.lo ⟨0,rfl⟩).b.val=(a.lo.val+b.lo.val)/18446744073709551616:=by
  simp only [zan];rw [wu (by omega) (by omega)];omega
 have hg:G_carry (Rng.w .u64 a.hi.val) (Rng.w .u64 b.hi.val) (zan a.lo b.lo ⟨0,rfl⟩).b=true:=by simp only [G_carry,ec];simp;omega
 have ea:(Rng.w .u64 a.hi.val).val=a.hi.val:=wu pa (by omega)
 have eb:(Rng.w .u64 b.hi.val).val=b.hi.val:=wu pb (by omega)
 have e2:(zan (Rng.w .u64 a.hi.val) (Rng.w .u64 b.hi.val) (zan a.lo b.lo ⟨0,rfl⟩).b).a.val=a.hi.val+b.hi.val+(a.lo.val+b.lo.val)/18446744073709551616:=by
  show (Rng.w .u64 _).val=_
  rw [ea,eb,ec,wu (by omega) (by omega)]
 have hlt:a.hi.val+b.hi.val+(a.lo.val+b.lo.val)/18446744073709551616<=9223372036854775807:=by omega
 have e3:(Rng.w .i64 (zan (Rng.w .u64 a.hi.val) (Rng.w .u64 b.hi.val) (zan a.lo b.lo ⟨0,rfl⟩).b).a.val).val=a.hi.val+b.hi.val+(a.lo.val+b.lo.val)/18446744073709551616:=by
  rw [e2,wi (by omega) hlt]
 have e1:(zan a.lo b.lo ⟨0,rfl⟩).a.val=(a.lo.val+b.lo.val)%18446744073709551616:=by
  simp only [zan];rw [zaJ];omega
 simp only [zcW,Tr.opt,hg,cond_true,e3]
 have x1:=xor_pos (a:=a.hi.val) (b:=a.hi.val+b.hi.val+(a.lo.val+b.lo.val)/18446744073709551616) ⟨pa,by omega⟩ ⟨by omega,hlt⟩
 have x2:=xor_pos (a:=b.hi.val) (b:=a.hi.val+b.hi.val+(a.lo.val+b.lo.val)/18446744073709551616) ⟨pb,by omega⟩ ⟨by omega,hlt⟩
 have x3:=and_pos x1 x2
 rw [show decide ((Rng.w .i64 (zaN .and .i64 (Rng.w .i64 (zaN .xor .i64 a.hi.val (a.hi.val+b.hi.val+(a.lo.val+b.lo.val)/18446744073709551616))).val (Rng.w .i64 (zaN .xor .i64 b.hi.val (a.hi.val+b.hi.val+(a.lo.val+b.lo.val)/18446744073709551616))).val)).val<0)=false by simpa using x3]
 simp only [cond_false]
 congr 2
 apply mkW_eq
 simp only [wv,e3,e1]
 omega
theorem wsqrt_mk {v:Int} (h:0<=v) (h':v<170141183460469231731687303715884105728):zb0 (mkW v)=⟨zq (mkW v),true⟩:=by
 refine wsqrt_eq _ ?_
 simp only [mkW];rw [wi (by omega) (by omega)];omega
theorem root_mk {v:Int} (h:0<=v) (h':v<170141183460469231731687303715884105728):0<=(zq (mkW v)).val/\(zq (mkW v)).val*(zq (mkW v)).val<=v/\v<((zq (mkW v)).val+1)*((zq (mkW v)).val+1):=by
 have:=root_val (mkW v) (by simp only [mkW];rw [wi (by omega) (by omega)];omega)
 rwa [zfm (by omega) h'] at this
def sq3 (x y z:I64):Int:=x.val*x.val+y.val*y.val+z.val*z.val
theorem sum_spec {x y z:I64} (hx:0<=x.val/\x.val<=1152921504606846976) (hy:0<=y.val/\y.val<=1152921504606846976) (hz:0<=z.val/\z.val<=1152921504606846976):
  zeA x y z=mkW (sq3 x y z)/\0<=sq3 x y z/\sq3 x y z<=3987683987354747618711421180841033728 /\
  (zca x y z).opt=some ⟨.w .i64 (zq (mkW (sq3 x y z))).val,bif !(((mkW ((Rng.w .i64 (zq (mkW (sq3 x y z))).val).val*(Rng.w .i64 (zq (mkW (sq3 x y z))).val).val)).hi.val==(mkW (sq3 x y z)).hi.val)&&(((mkW ((Rng.w .i64 (zq (mkW (sq3 x y z))).val).val*(Rng.w .i64 (zq (mkW (sq3 x y z))).val).val)).lo.val==(mkW (sq3 x y z)).lo.val)&&true)) then .w .i64 ((Rng.w .i64 (zq (mkW (sq3 x y z))).val).val+1) else .w .i64 (zq (mkW (sq3 x y z))).val⟩:=by
 have px:=Int.mul_nonneg hx.1 hx.1
 have py:=Int.mul_nonneg hy.1 hy.1
 have pz:=Int.mul_nonneg hz.1 hz.1
 have qx:x.val*x.val<=1152921504606846976*1152921504606846976:=Int.mul_le_mul hx.2 hx.2 hx.1 (by decide)
 have qy:y.val*y.val<=1152921504606846976*1152921504606846976:=Int.mul_le_mul hy.2 hy.2 hy.1 (by decide)
 have qz:z.val*z.val<=1152921504606846976*1152921504606846976:=Int.mul_le_mul hz.2 hz.2 hz.1 (by decide)
 have wx:=zfm (v:=x.val*x.val) (by omega) (by omega)
 have wy:=zfm (v:=y.val*y.val) (by omega) (by omega)
 have wz:=zfm (v:=z.val*z.val) (by omega) (by omega)
 have wxy:=zfm (v:=x.val*x.val+y.val*y.val) (by omega) (by omega)
 have s1:zbc (mkW (x.val*x.val)) (mkW (y.val*y.val))=mkW (x.val*x.val+y.val*y.val):=by rw [plus_spec _ _ (by rw [wx,wy];omega),wx,wy]
 have s2:zbc (mkW (x.val*x.val+y.val*y.val)) (mkW (z.val*z.val))=mkW (sq3 x y z):=by rw [plus_spec _ _ (by rw [wxy,wz];omega),wxy,wz];rfl
 have i1:(zcW (mkW (x.val*x.val)) (mkW (y.val*y.val))).opt=some ⟨mkW (x.val*x.val+y.val*y.val),true⟩:=by rw [add_impl _ _ (by omega) (by omega) (by rw [wx,wy];omega),wx,wy]
 have i2:(zcW (mkW (x.val*x.val+y.val*y.val)) (mkW (z.val*z.val))).opt=some ⟨mkW (sq3 x y z),true⟩:=by rw [add_impl _ _ (by omega) (by omega) (by rw [wxy,wz];omega),wxy,wz];rfl
 have g1:zcY (mkW (x.val*x.val)) (mkW (y.val*y.val))=true:=by unfold zcY;rw [i1];rfl
 have g2:zcY (mkW (x.val*x.val+y.val*y.val)) (mkW (z.val*z.val))=true:=by unfold zcY;rw [i2];rfl
 have f1:zeZ (mkW (x.val*x.val)) (mkW (y.val*y.val))=_:=Tr.zaB i1
 have f2:zeZ (mkW (x.val*x.val+y.val*y.val)) (mkW (z.val*z.val))=_:=Tr.zaB i2
 have hs:sq3 x y z=x.val*x.val+y.val*y.val+z.val*z.val:=rfl
 have h0:0<=sq3 x y z:=by omega
 have h1:sq3 x y z<=3987683987354747618711421180841033728:=by omega
 refine ⟨?_,h0,h1,?_⟩
 ·simp only [zeA,t_spec_l10Sum,Tr.get,mul_spec,s1,s2]
 ·simp only [zca,Tr.opt,mul_impl,g1,f1,g2,f2,cond_true,wsqrt_mk h0 (by omega)]
  cases (!(((mkW ((Rng.w .i64 (zq (mkW (sq3 x y z))).val).val*(Rng.w .i64 (zq (mkW (sq3 x y z))).val).val)).hi.val==(mkW (sq3 x y z)).hi.val)&&(((mkW ((Rng.w .i64 (zq (mkW (sq3 x y z))).val).val*(Rng.w .i64 (zq (mkW (sq3 x y z))).val).val)).lo.val==(mkW (sq3 x y z)).lo.val)&&true)))<;>rfl
theorem sq_mono {a b:Int} (h:0<=a) (h':a<=b):a*a<=b*b:=Int.mul_le_mul h' h' h (by omega)
theorem norm_ok (v:Vec):(t_impl_NormV v).opt=some (za3 v):=by
 simp only [t_impl_NormV,Tr.opt,za3,t_spec_NormV,Tr.get,areb_eq,isw_eq,siw_eq,zb3,zeT,ends_eq]
 cases hx:za v.x
 ·rfl
 cases hy:za v.y
 ·rfl
 cases hz:za v.z
 ·rfl
 simp only [Bool.and_self,Bool.not_true,cond_false,abs_ends hx,abs_ends hy,abs_ends hz,abs_make hx,abs_make hy,abs_make hz]
 have bx:=(zbW v.x).1 hx
 have by':=(zbW v.y).1 hy
 have bz:=(zbW v.z).1 hz
 obtain ⟨x1,x2,ex,x3,x4,x5⟩:=zfH hx
 obtain ⟨y1,y2,ey,y3,y4,y5⟩:=zfH hy
 obtain ⟨z1,z2,ez,z3,z4,z5⟩:=zfH hz
 simp only [ex,ey,ez]
 obtain ⟨a1,a2,a3,a4⟩:=sum_spec (x:=x1) (y:=y1) (z:=z1) (by omega) (by omega) (by omega)
 obtain ⟨b1,b2,b3,b4⟩:=sum_spec (x:=x2) (y:=y2) (z:=z2) (by omega) (by omega) (by omega)
 have ga:zbh x1 y1 z1=true:=by unfold zbh;rw [a4];rfl
 have gb:zbh x2 y2 z2=true:=by unfold zbh;rw [b4];rfl
 have fa:zcc x1 y1 z1=_:=Tr.zaB a4
 have fb:zcc x2 y2 z2=_:=Tr.zaB b4
 obtain ⟨r0,r1,r2⟩:=root_mk a2 (by omega)
 obtain ⟨q0,q1,q2⟩:=root_mk b2 (by omega)
 have hle:sq3 x1 y1 z1<=sq3 x2 y2 z2:=by
  have k1:=sq_mono x3 x4
  have k2:=sq_mono y3 y4
  have k3:=sq_mono z3 z4
  unfold sq3;omega
 have hR:(zq (mkW (sq3 x1 y1 z1))).val<=(zq (mkW (sq3 x2 y2 z2))).val:=by
  by_cases hh:(zq (mkW (sq3 x1 y1 z1))).val<=(zq (mkW (sq3 x2 y2 z2))).val
  ·exact hh
  ·have:=sq_mono (a:=(zq (mkW (sq3 x2 y2 z2))).val+1) (b:=(zq (mkW (sq3 x1 y1 z1))).val) (by omega) (by omega)
   omega
 have hQ:(zq (mkW (sq3 x2 y2 z2))).val<=2305843009213693952:=sq_lt q0 (by decide) (by omega)
 have w1:(Rng.w .i64 (zq (mkW (sq3 x1 y1 z1))).val).val=(zq (mkW (sq3 x1 y1 z1))).val:=wi (by omega) (by omega)
 have w2:(Rng.w .i64 (zq (mkW (sq3 x2 y2 z2))).val).val=(zq (mkW (sq3 x2 y2 z2))).val:=wi (by omega) (by omega)
 have w3:(Rng.w .i64 ((zq (mkW (sq3 x2 y2 z2))).val+1)).val=(zq (mkW (sq3 x2 y2 z2))).val+1:=wi (by omega) (by omega)
 simp only [ga,gb,fa,fb,cond_true,a1,b1,mul_spec,zfq]
 generalize hc:((mkW ((Rng.w .i64 (zq (mkW (sq3 x2 y2 z2))).val).val*(Rng.w .i64 (zq (mkW (sq3 x2 y2 z2))).val).val)).hi.val==(mkW (sq3 x2 y2 z2)).hi.val&&((mkW ((Rng.w .i64 (zq (mkW (sq3 x2 y2 z2))).val).val*(Rng.w .i64 (zq (mkW (sq3 x2 y2 z2))).val).val)).lo.val==(mkW (sq3 x2 y2 z2)).lo.val&&true))=c
 cases c
 ·simp only [Bool.not_false,cond_true,w2,w3]
  by_cases hm:(zq (mkW (sq3 x2 y2 z2))).val+1>=1152921504606846976
  ·simp only [hm,decide_true,cond_true]
   rw [make_no (by rw [w3];omega)]
  ·simp only [hm,decide_false,cond_false]
   rw [zcX (by rw [w1,w3];omega)]
 ·simp only [Bool.not_true,cond_false,w2]
  by_cases hm:(zq (mkW (sq3 x2 y2 z2))).val>=1152921504606846976
  ·simp only [hm,decide_true,cond_true]
   rw [make_no (by rw [w2];omega)]
  ·simp only [hm,decide_false,cond_false]
   rw [zcX (by rw [w1,w2];omega)]
theorem norm_eq (v:Vec):F_impl_NormV v=za3 v:=Tr.zaB (norm_ok v)
theorem tt_norm_impl (v:Vec):(t_impl_NormV v).opt=some (F_impl_NormV v):=opt_self (norm_ok v)
end Go.Proofs.YtlolpmmloolieaaGreatDoor.Ev
namespace Go.Proofs.YtlolpmmloolieaaGreatDoor.Ev
open Go
def shr (n e:I64):I64:= .w .i64 (n.val.fdiv (2^min e.val.toNat 64))
def shl (n e:I64):I64:= .w .i64 (n.val*(2^min e.val.toNat 64))
def sl (n e:I64):I64:=shl n (.w .i64 (0-e.val))
end Go.Proofs.YtlolpmmloolieaaGreatDoor.Ev
namespace Go.Proofs.YtlolpmmloolieaaGreatDoor.Ev
open Go Go.RowKit
set_option maxRecDepth 100000
section
variable [Amb]
def ET_impl_NormV:Ent Tryz.prog:= .of1 Tb21 B21 (fun _=>true) F_impl_NormV fun a0 _=>(r_impl_NormV a0).trans (tt_norm_impl a0)
def B33:Bod Tryz.prog:=⟨33,Tryz.f33,Tryz.f33.body.getD .skip,Tryz.func33,by kernel_rfl,by kernel_rfl,zai.no _ _⟩
def Tb33:Tb Tryz.prog:= {T:= [Y2,Y33,Y37],mix:=mix,Es:= [ET_impl_NormV],Bs:= [],d:=1}
def zfC (a0:Vec):Tr (Iv):=
 .leaf (F_impl_NormV ⟨a0.x,a0.y,⟨⟨0,rfl⟩,⟨0,rfl⟩⟩⟩)
theorem r_impl_fromAxis (a0:Vec):Tb33.run B33 [enc a0] (Iv)=(zfC a0).opt:=by kernel_rfl
def zej:Vec->Iv:=fun a0=>(zfC a0).get
theorem u_impl_fromAxis (a0:Vec):(zfC a0).opt=some (zej a0):=Tr.zW (by kernel_rfl)
def E_impl_fromAxis:Ent Tryz.prog:= .of1 Tb33 B33 (fun _=>true) zej fun a0 _=>(r_impl_fromAxis a0).trans (u_impl_fromAxis a0)
def Y25:TyE Tryz.prog:=⟨25,3,(.struct [(0,2,1),(1,2,1),(2,2,1)]),[.i64 ⟨0,rfl⟩,.i64 ⟨0,rfl⟩,.i64 ⟨0,rfl⟩],true,by kernel_rfl,by kernel_rfl,by kernel_rfl,by kernel_rfl,by kernel_rfl,by kernel_rfl⟩
def B29:Bod Tryz.prog:=⟨29,Tryz.f29,Tryz.f29.body.getD .skip,Tryz.func29,by kernel_rfl,by kernel_rfl,zai.no _ _⟩
def Tb29:Tb Tryz.prog:= {T:= [Y2,Y25],mix:=mix,Es:= [zbf],Bs:= [],d:=1}
def zcL (a0:Ell):Tr (Bool):=
 .br (zal a0.a ⟨1000,rfl⟩ ⟨100000000000,rfl⟩) (.br (zal a0.den ⟨1,rfl⟩ ⟨1000000000000,rfl⟩) (.leaf (zal a0.num ⟨0,rfl⟩ (Rng.w .i64 (a0.den.val.tdiv 100)))) (.leaf false)) (.leaf false)
theorem r_impl_ValidEllipsoid (a0:Ell):Tb29.run B29 [enc a0] (Bool)=(zcL a0).opt:=by kernel_rfl
def zaG:Ell->Bool:=fun a0=>(zcL a0).get
theorem u_impl_ValidEllipsoid (a0:Ell):(zcL a0).opt=some (zaG a0):=Tr.zW (by kernel_rfl)
def zbx:Ent Tryz.prog:= .of1 Tb29 B29 (fun _=>true) zaG fun a0 _=>(r_impl_ValidEllipsoid a0).trans (u_impl_ValidEllipsoid a0)
def B78:Bod Tryz.prog:=⟨78,Tryz.f78,Tryz.f78.body.getD .skip,Tryz.func78,by kernel_rfl,by kernel_rfl,zai.no _ _⟩
def B79:Bod Tryz.prog:=⟨79,Tryz.f79,Tryz.f79.body.getD .skip,Tryz.func79,by kernel_rfl,by kernel_rfl,zai.no _ _⟩
def B34:Bod Tryz.prog:=⟨34,Tryz.f34,Tryz.f34.body.getD .skip,Tryz.func34,by kernel_rfl,by kernel_rfl,zai.no _ _⟩
def Tb34:Tb Tryz.prog:= {T:= [Y2,Y25,Y33],mix:=mix,Es:= [zbx,zaq,ET_impl_Quotient],Bs:= [B78,B79],d:=8}
def t_impl_MajorI (a0:Ell):Tr (Iv):=
 .br (!(zaG a0)) (.leaf zJ) (.leaf (zbH a0.a ⟨1000,rfl⟩))
theorem r_impl_MajorI (a0:Ell):Tb34.run B34 [enc a0] (Iv)=(t_impl_MajorI a0).opt:=by kernel_rfl
def zdB:Ell->Iv:=fun a0=>(t_impl_MajorI a0).get
theorem u_impl_MajorI (a0:Ell):(t_impl_MajorI a0).opt=some (zdB a0):=Tr.zW (by kernel_rfl)
def E_impl_MajorI:Ent Tryz.prog:= .of1 Tb34 B34 (fun _=>true) zdB fun a0 _=>(r_impl_MajorI a0).trans (u_impl_MajorI a0)
def B141:Bod Tryz.prog:=⟨141,Tryz.f141,Tryz.f141.body.getD .skip,Tryz.func141,by kernel_rfl,by kernel_rfl,zai.no _ _⟩
def B114:Bod Tryz.prog:=⟨114,Tryz.f114,Tryz.f114.body.getD .skip,Tryz.func114,by kernel_rfl,by kernel_rfl,zai.no _ _⟩
def Tb114:Tb Tryz.prog:= {T:= [Y2,Y25,Y33],mix:=mix,Es:= [zbx,zaq,ET_impl_Quotient],Bs:= [B78,B141],d:=8}
def zd1 (a0:Ell):Tr (Iv):=
 .br (!(zaG a0)) (.leaf zJ) (.leaf (zbH a0.num a0.den))
theorem r_impl_FlatteningI (a0:Ell):Tb114.run B114 [enc a0] (Iv)=(zd1 a0).opt:=by kernel_rfl
def zcS:Ell->Iv:=fun a0=>(zd1 a0).get
theorem u_impl_FlatteningI (a0:Ell):(zd1 a0).opt=some (zcS a0):=Tr.zW (by kernel_rfl)
def E_impl_FlatteningI:Ent Tryz.prog:= .of1 Tb114 B114 (fun _=>true) zcS fun a0 _=>(r_impl_FlatteningI a0).trans (u_impl_FlatteningI a0)
def B74:Bod Tryz.prog:=⟨74,Tryz.f74,Tryz.f74.body.getD .skip,Tryz.func74,by kernel_rfl,by kernel_rfl,zai.no _ _⟩
def Tb74:Tb Tryz.prog:= {T:= [Y2,Y25,Y33],mix:=mix,Es:= [zem,E_impl_SubI,ze3,E_impl_FlatteningI],Bs:= [],d:=1}
def t_impl_EccI (a0:Ell):Tr (Iv):=
 let c1:=zcS a0;.leaf (zar c1 (zaT (zT ⟨2,rfl⟩) c1))
theorem r_impl_EccI (a0:Ell):Tb74.run B74 [enc a0] (Iv)=(t_impl_EccI a0).opt:=by kernel_rfl
def F_impl_EccI:Ell->Iv:=fun a0=>(t_impl_EccI a0).get
theorem u_impl_EccI (a0:Ell):(t_impl_EccI a0).opt=some (F_impl_EccI a0):=Tr.zW (by kernel_rfl)
def E_impl_EccI:Ent Tryz.prog:= .of1 Tb74 B74 (fun _=>true) F_impl_EccI fun a0 _=>(r_impl_EccI a0).trans (u_impl_EccI a0)
def B73:Bod Tryz.prog:=⟨73,Tryz.f73,Tryz.f73.body.getD .skip,Tryz.func73,by kernel_rfl,by kernel_rfl,zai.no _ _⟩
def Tb73:Tb Tryz.prog:= {T:= [Y2,Y33],mix:=mix,Es:= [E_impl_SubI,ze3],Bs:= [],d:=1}
def t_impl_oneLess (a0:Iv):Tr (Iv):=
 .leaf (zaT (zT ⟨1,rfl⟩) a0)
theorem r_impl_oneLess (a0:Iv):Tb73.run B73 [enc a0] (Iv)=(t_impl_oneLess a0).opt:=by kernel_rfl
def zdT:Iv->Iv:=fun a0=>(t_impl_oneLess a0).get
theorem u_impl_oneLess (a0:Iv):(t_impl_oneLess a0).opt=some (zdT a0):=Tr.zW (by kernel_rfl)
def E_impl_oneLess:Ent Tryz.prog:= .of1 Tb73 B73 (fun _=>true) zdT fun a0 _=>(r_impl_oneLess a0).trans (u_impl_oneLess a0)
def B113:Bod Tryz.prog:=⟨113,Tryz.f113,Tryz.f113.body.getD .skip,Tryz.func113,by kernel_rfl,by kernel_rfl,zai.no _ _⟩
def Tb113:Tb Tryz.prog:= {T:= [Y2,Y25,Y33],mix:=mix,Es:= [zem,ET_impl_SqrI,E_impl_oneLess,E_impl_EccI],Bs:= [],d:=1}
def zfB (a0:Ell) (a1:Iv):Tr (Iv):=
 .leaf (zdT (zar (F_impl_EccI a0) (zek a1)))
theorem r_impl_weightOf (a0:Ell) (a1:Iv):Tb113.run B113 [enc a0,enc a1] (Iv)=(zfB a0 a1).opt:=by kernel_rfl
def zei:Ell->Iv->Iv:=fun a0 a1=>(zfB a0 a1).get
theorem u_impl_weightOf (a0:Ell) (a1:Iv):(zfB a0 a1).opt=some (zei a0 a1):=Tr.zW (by kernel_rfl)
def E_impl_weightOf:Ent Tryz.prog:= .of2 Tb113 B113 (fun _ _=>true) zei fun a0 a1 _=>(r_impl_weightOf a0 a1).trans (u_impl_weightOf a0 a1)
def B71:Bod Tryz.prog:=⟨71,Tryz.f71,Tryz.f71.body.getD .skip,Tryz.func71,by kernel_rfl,by kernel_rfl,zai.no _ _⟩
def Tb71:Tb Tryz.prog:= {T:= [Y2,Y25,Y33],mix:=mix,Es:= [E_impl_SinI,E_impl_DivI,E_impl_MajorI,ET_impl_SqrtI,E_impl_weightOf],Bs:= [],d:=1}
def t_impl_RadiusN (a0:Ell) (a1:Iv):Tr (Iv):=
 .leaf (zbs (zdB a0) (F_impl_SqrtI (zei a0 (zcw a1))))
theorem r_impl_RadiusN (a0:Ell) (a1:Iv):Tb71.run B71 [enc a0,enc a1] (Iv)=(t_impl_RadiusN a0 a1).opt:=by kernel_rfl
def ze0:Ell->Iv->Iv:=fun a0 a1=>(t_impl_RadiusN a0 a1).get
theorem u_impl_RadiusN (a0:Ell) (a1:Iv):(t_impl_RadiusN a0 a1).opt=some (ze0 a0 a1):=Tr.zW (by kernel_rfl)
def E_impl_RadiusN:Ent Tryz.prog:= .of2 Tb71 B71 (fun _ _=>true) ze0 fun a0 a1 _=>(r_impl_RadiusN a0 a1).trans (u_impl_RadiusN a0 a1)
def B22:Bod Tryz.prog:=⟨22,Tryz.f22,Tryz.f22.body.getD .skip,Tryz.func22,by kernel_rfl,by kernel_rfl,zai.no _ _⟩
def Tb22:Tb Tryz.prog:= {T:= [Y2,Y28,Y33],mix:=mix,Es:= [zaq,zeF,ET_impl_RadiansOf],Bs:= [],d:=1}
def t_impl_LatOf (a0:zdz):Tr (Iv):=
 .br (!(zab a0)) (.leaf zJ) (.leaf (zdM a0.lat))
theorem r_impl_LatOf (a0:zdz):Tb22.run B22 [enc a0] (Iv)=(t_impl_LatOf a0).opt:=by kernel_rfl
def zfu:zdz->Iv:=fun a0=>(t_impl_LatOf a0).get
theorem u_impl_LatOf (a0:zdz):(t_impl_LatOf a0).opt=some (zfu a0):=Tr.zW (by kernel_rfl)
def E_impl_LatOf:Ent Tryz.prog:= .of1 Tb22 B22 (fun _=>true) zfu fun a0 _=>(r_impl_LatOf a0).trans (u_impl_LatOf a0)
def B23:Bod Tryz.prog:=⟨23,Tryz.f23,Tryz.f23.body.getD .skip,Tryz.func23,by kernel_rfl,by kernel_rfl,zai.no _ _⟩
def Tb23:Tb Tryz.prog:= {T:= [Y2,Y28,Y33],mix:=mix,Es:= [zaq,zeF,ET_impl_RadiansOf],Bs:= [],d:=1}
def t_impl_LonOf (a0:zdz):Tr (Iv):=
 .br (!(zab a0)) (.leaf zJ) (.leaf (zdM a0.lon))
theorem r_impl_LonOf (a0:zdz):Tb23.run B23 [enc a0] (Iv)=(t_impl_LonOf a0).opt:=by kernel_rfl
def zft:zdz->Iv:=fun a0=>(t_impl_LonOf a0).get
theorem u_impl_LonOf (a0:zdz):(t_impl_LonOf a0).opt=some (zft a0):=Tr.zW (by kernel_rfl)
def E_impl_LonOf:Ent Tryz.prog:= .of1 Tb23 B23 (fun _=>true) zft fun a0 _=>(r_impl_LonOf a0).trans (u_impl_LonOf a0)
def B31:Bod Tryz.prog:=⟨31,Tryz.f31,Tryz.f31.body.getD .skip,Tryz.func31,by kernel_rfl,by kernel_rfl,zai.no _ _⟩
def Tb31:Tb Tryz.prog:= {T:= [Y2,Y25,Y28,Y30,Y33,Y37],mix:=mix,Es:= [E_impl_LatOf,E_impl_LonOf,E_impl_AddI,zem,E_impl_CosI,E_impl_SinI,E_impl_RadiusN,ET_impl_HeightI,E_impl_oneLess,E_impl_EccI],Bs:= [],d:=1}
def zdY (a0:Ell) (a1:Place):Tr (Vec):=
 let c1:=zfu a1.pt;let c2:=zft a1.pt;let c3:=ze0 a0 c1;let c4:=ze2 a1.h;let c7:=zar (zb9 c3 c4) (zc1 c1);.leaf ⟨(zar c7 (zc1 c2)),(zar c7 (zcw c2)),(zar (zb9 (zar c3 (zdT (F_impl_EccI a0))) c4) (zcw c1))⟩
theorem r_impl_toCartesian (a0:Ell) (a1:Place):Tb31.run B31 [enc a0,enc a1] (Vec)=(zdY a0 a1).opt:=by kernel_rfl
def zbF:Ell->Place->Vec:=fun a0 a1=>(zdY a0 a1).get
theorem u_impl_toCartesian (a0:Ell) (a1:Place):(zdY a0 a1).opt=some (zbF a0 a1):=Tr.zW (by kernel_rfl)
def E_impl_toCartesian:Ent Tryz.prog:= .of2 Tb31 B31 (fun _ _=>true) zbF fun a0 a1 _=>(r_impl_toCartesian a0 a1).trans (u_impl_toCartesian a0 a1)
def B55:Bod Tryz.prog:=⟨55,Tryz.f55,Tryz.f55.body.getD .skip,Tryz.func55,by kernel_rfl,by kernel_rfl,zai.no _ _⟩
def Tb55:Tb Tryz.prog:= {T:= [Y2,Y33,Y37],mix:=mix,Es:= [E_impl_SubI],Bs:= [],d:=1}
def t_impl_SubV (a0:Vec) (a1:Vec):Tr (Vec):=
 .leaf ⟨(zaT a0.x a1.x),(zaT a0.y a1.y),(zaT a0.z a1.z)⟩
theorem r_impl_SubV (a0:Vec) (a1:Vec):Tb55.run B55 [enc a0,enc a1] (Vec)=(t_impl_SubV a0 a1).opt:=by kernel_rfl
def F_impl_SubV:Vec->Vec->Vec:=fun a0 a1=>(t_impl_SubV a0 a1).get
theorem u_impl_SubV (a0:Vec) (a1:Vec):(t_impl_SubV a0 a1).opt=some (F_impl_SubV a0 a1):=Tr.zW (by kernel_rfl)
def E_impl_SubV:Ent Tryz.prog:= .of2 Tb55 B55 (fun _ _=>true) F_impl_SubV fun a0 a1 _=>(r_impl_SubV a0 a1).trans (u_impl_SubV a0 a1)
def B20:Bod Tryz.prog:=⟨20,Tryz.f20,Tryz.f20.body.getD .skip,Tryz.func20,by kernel_rfl,by kernel_rfl,zai.no _ _⟩
def Tb20:Tb Tryz.prog:= {T:= [Y2,Y25,Y30,Y33,Y37],mix:=mix,Es:= [zbx,zeG,E_impl_toCartesian,E_impl_SubV],Bs:= [],d:=1}
def zes (a0:Ell) (a1:Place) (a2:Place):Tr (T2 Vec I64):=
 .br (!(zaG a0)) (.leaf ⟨⟨⟨⟨0,rfl⟩,⟨0,rfl⟩⟩,⟨⟨0,rfl⟩,⟨0,rfl⟩⟩,⟨⟨0,rfl⟩,⟨0,rfl⟩⟩⟩,⟨1,rfl⟩⟩) (.br (!(zac a1)) (.leaf ⟨⟨⟨⟨0,rfl⟩,⟨0,rfl⟩⟩,⟨⟨0,rfl⟩,⟨0,rfl⟩⟩,⟨⟨0,rfl⟩,⟨0,rfl⟩⟩⟩,⟨1,rfl⟩⟩) (.br (!(zac a2)) (.leaf ⟨⟨⟨⟨0,rfl⟩,⟨0,rfl⟩⟩,⟨⟨0,rfl⟩,⟨0,rfl⟩⟩,⟨⟨0,rfl⟩,⟨0,rfl⟩⟩⟩,⟨1,rfl⟩⟩) (.leaf ⟨(F_impl_SubV (zbF a0 a2) (zbF a0 a1)),⟨0,rfl⟩⟩)))
theorem r_impl_difference (a0:Ell) (a1:Place) (a2:Place):Tb20.run B20 [enc a0,enc a1,enc a2] (T2 Vec I64)=(zes a0 a1 a2).opt:=by kernel_rfl
def zcr:Ell->Place->Place->T2 Vec I64:=fun a0 a1 a2=>(zes a0 a1 a2).get
theorem u_impl_difference (a0:Ell) (a1:Place) (a2:Place):(zes a0 a1 a2).opt=some (zcr a0 a1 a2):=Tr.zW (by kernel_rfl)
def E_impl_difference:Ent Tryz.prog:= .of3 Tb20 B20 (fun _ _ _=>true) zcr fun a0 a1 a2 _=>(r_impl_difference a0 a1 a2).trans (u_impl_difference a0 a1 a2)
def B8:Bod Tryz.prog:=⟨8,Tryz.f8,Tryz.f8.body.getD .skip,Tryz.func8,by kernel_rfl,by kernel_rfl,zai.no _ _⟩
def Tb8:Tb Tryz.prog:= {T:= [Y2,Y25,Y28,Y30,Y33,Y37],mix:=mix,Es:= [E_impl_difference,E_impl_LatOf,E_impl_LonOf,E_impl_AddI,zem,E_impl_CosI,E_impl_SinI,E_impl_SubI],Bs:= [],d:=1}
def t_impl_LocalTo (a0:Ell) (a1:Place) (a2:Place):Tr (T2 Vec I64):=
 let c1:=zcr a0 a1 a2;.br (c1.b.val != 0) (.leaf ⟨⟨⟨⟨0,rfl⟩,⟨0,rfl⟩⟩,⟨⟨0,rfl⟩,⟨0,rfl⟩⟩,⟨⟨0,rfl⟩,⟨0,rfl⟩⟩⟩,c1.b⟩) (let c2:=zfu a1.pt;let c3:=zft a1.pt;let c8:=zb9 (zar c1.a.x (zc1 c3)) (zar c1.a.y (zcw c3));.leaf ⟨⟨(zaT (zar c1.a.y (zc1 c3)) (zar c1.a.x (zcw c3))),(zaT (zar c1.a.z (zc1 c2)) (zar c8 (zcw c2))),(zb9 (zar c1.a.z (zcw c2)) (zar c8 (zc1 c2)))⟩,⟨0,rfl⟩⟩)
theorem r_impl_LocalTo (a0:Ell) (a1:Place) (a2:Place):Tb8.run B8 [enc a0,enc a1,enc a2] (T2 Vec I64)=(t_impl_LocalTo a0 a1 a2).opt:=by kernel_rfl
def ze1:Ell->Place->Place->T2 Vec I64:=fun a0 a1 a2=>(t_impl_LocalTo a0 a1 a2).get
theorem u_impl_LocalTo (a0:Ell) (a1:Place) (a2:Place):(t_impl_LocalTo a0 a1 a2).opt=some (ze1 a0 a1 a2):=Tr.zW (by kernel_rfl)
def E_impl_LocalTo:Ent Tryz.prog:= .of3 Tb8 B8 (fun _ _ _=>true) ze1 fun a0 a1 a2 _=>(r_impl_LocalTo a0 a1 a2).trans (u_impl_LocalTo a0 a1 a2)
def B7:Bod Tryz.prog:=⟨7,Tryz.f7,Tryz.f7.body.getD .skip,Tryz.func7,by kernel_rfl,by kernel_rfl,zai.no _ _⟩
def Tb7:Tb Tryz.prog:= {T:= [Y2,Y25,Y30,Y33,Y37],mix:=mix,Es:= [E_impl_difference,ET_impl_NormV],Bs:= [],d:=1}
def zcv (a0:Ell) (a1:Place) (a2:Place):Tr (T2 Iv I64):=
 let c1:=zcr a0 a1 a2;.br (c1.b.val != 0) (.leaf ⟨⟨⟨0,rfl⟩,⟨0,rfl⟩⟩,c1.b⟩) (.leaf ⟨(F_impl_NormV c1.a),⟨0,rfl⟩⟩)
theorem r_impl_ChordBetween (a0:Ell) (a1:Place) (a2:Place):Tb7.run B7 [enc a0,enc a1,enc a2] (T2 Iv I64)=(zcv a0 a1 a2).opt:=by kernel_rfl
def zba:Ell->Place->Place->T2 Iv I64:=fun a0 a1 a2=>(zcv a0 a1 a2).get
theorem u_impl_ChordBetween (a0:Ell) (a1:Place) (a2:Place):(zcv a0 a1 a2).opt=some (zba a0 a1 a2):=Tr.zW (by kernel_rfl)
def E_impl_ChordBetween:Ent Tryz.prog:= .of3 Tb7 B7 (fun _ _ _=>true) zba fun a0 a1 a2 _=>(r_impl_ChordBetween a0 a1 a2).trans (u_impl_ChordBetween a0 a1 a2)
def B81:Bod Tryz.prog:=⟨81,Tryz.f81,Tryz.f81.body.getD .skip,Tryz.func81,by kernel_rfl,by kernel_rfl,zai.no _ _⟩
def B35:Bod Tryz.prog:=⟨35,Tryz.f35,Tryz.f35.body.getD .skip,Tryz.func35,by kernel_rfl,by kernel_rfl,zai.no _ _⟩
def Tb35:Tb Tryz.prog:= {T:= [Y2,Y25,Y33],mix:=mix,Es:= [zem,zbx,E_impl_MajorI,zaq,ET_impl_Quotient],Bs:= [B78,B81],d:=8}
def t_impl_MinorI (a0:Ell):Tr (Iv):=
 .br (!(zaG a0)) (.leaf zJ) (.leaf (zar (zdB a0) (zbH (Rng.w .i64 (a0.den.val-a0.num.val)) a0.den)))
theorem r_impl_MinorI (a0:Ell):Tb35.run B35 [enc a0] (Iv)=(t_impl_MinorI a0).opt:=by kernel_rfl
def zfP:Ell->Iv:=fun a0=>(t_impl_MinorI a0).get
theorem u_impl_MinorI (a0:Ell):(t_impl_MinorI a0).opt=some (zfP a0):=Tr.zW (by kernel_rfl)
def E_impl_MinorI:Ent Tryz.prog:= .of1 Tb35 B35 (fun _=>true) zfP fun a0 _=>(r_impl_MinorI a0).trans (u_impl_MinorI a0)
def B10:Bod Tryz.prog:=⟨10,Tryz.f10,Tryz.f10.body.getD .skip,Tryz.func10,by kernel_rfl,by kernel_rfl,zai.no _ _⟩
def Tb10:Tb Tryz.prog:= {T:= [Y2,Y25,Y33,Y37],mix:=mix,Es:= [E_impl_AddI,zbx,E_impl_DivI,E_impl_fromAxis,E_impl_MajorI,E_impl_MinorI,E_impl_LessI,ET_impl_SqrI,ze3],Bs:= [],d:=1}
def zfE (a0:Ell) (a1:Vec):Tr (T2 I64 I64):=
 .br (!(zaG a0)) (.leaf ⟨⟨0,rfl⟩,⟨1,rfl⟩⟩) (.leaf ⟨(F_impl_LessI (zb9 (zek (zbs (zej a1) (zdB a0))) (zek (zbs a1.z (zfP a0)))) (zT ⟨1,rfl⟩)),⟨0,rfl⟩⟩)
theorem r_impl_InsideOf (a0:Ell) (a1:Vec):Tb10.run B10 [enc a0,enc a1] (T2 I64 I64)=(zfE a0 a1).opt:=by kernel_rfl
def zdm:Ell->Vec->T2 I64 I64:=fun a0 a1=>(zfE a0 a1).get
theorem u_impl_InsideOf (a0:Ell) (a1:Vec):(zfE a0 a1).opt=some (zdm a0 a1):=Tr.zW (by kernel_rfl)
def E_impl_InsideOf:Ent Tryz.prog:= .of2 Tb10 B10 (fun _ _=>true) zdm fun a0 a1 _=>(r_impl_InsideOf a0 a1).trans (u_impl_InsideOf a0 a1)
def B9:Bod Tryz.prog:=⟨9,Tryz.f9,Tryz.f9.body.getD .skip,Tryz.func9,by kernel_rfl,by kernel_rfl,zai.no _ _⟩
def Tb9:Tb Tryz.prog:= {T:= [Y2,Y25,Y30,Y33,Y37],mix:=mix,Es:= [zbx,zeG,E_impl_toCartesian],Bs:= [],d:=1}
def zd0 (a0:Ell) (a1:Place):Tr (T2 Vec I64):=
 .br (!(zaG a0)) (.leaf ⟨⟨⟨⟨0,rfl⟩,⟨0,rfl⟩⟩,⟨⟨0,rfl⟩,⟨0,rfl⟩⟩,⟨⟨0,rfl⟩,⟨0,rfl⟩⟩⟩,⟨1,rfl⟩⟩) (.br (!(zac a1)) (.leaf ⟨⟨⟨⟨0,rfl⟩,⟨0,rfl⟩⟩,⟨⟨0,rfl⟩,⟨0,rfl⟩⟩,⟨⟨0,rfl⟩,⟨0,rfl⟩⟩⟩,⟨1,rfl⟩⟩) (.leaf ⟨(zbF a0 a1),⟨0,rfl⟩⟩))
theorem r_impl_ToCartesian (a0:Ell) (a1:Place):Tb9.run B9 [enc a0,enc a1] (T2 Vec I64)=(zd0 a0 a1).opt:=by kernel_rfl
def zcR:Ell->Place->T2 Vec I64:=fun a0 a1=>(zd0 a0 a1).get
theorem u_impl_ToCartesian (a0:Ell) (a1:Place):(zd0 a0 a1).opt=some (zcR a0 a1):=Tr.zW (by kernel_rfl)
def E_impl_ToCartesian:Ent Tryz.prog:= .of2 Tb9 B9 (fun _ _=>true) zcR fun a0 a1 _=>(r_impl_ToCartesian a0 a1).trans (u_impl_ToCartesian a0 a1)
def t_spec_l12Ok (a0:Ell):Tr (Bool):=
 .br (zV a0.a ⟨1000,rfl⟩ ⟨100000000000,rfl⟩) (.br (zV a0.den ⟨1,rfl⟩ ⟨1000000000000,rfl⟩) (.br (decide (a0.num.val>=0)) (.leaf (decide (a0.num.val<=(Rng.w .i64 (a0.den.val.tdiv 100)).val))) (.leaf false)) (.leaf false)) (.leaf false)
def zak:Ell->Bool:=fun a0=>(t_spec_l12Ok a0).get
def t_spec_MajorI (a0:Ell):Tr (Iv):=
 .br (!(zak a0)) (.leaf zn) (.leaf (zbE a0.a ⟨1000,rfl⟩))
def zbT:Ell->Iv:=fun a0=>(t_spec_MajorI a0).get
def zfA (a0:Ell):Tr (Iv):=
 .br (!(zak a0)) (.leaf zn) (.leaf (zbE a0.num a0.den))
def zcQ:Ell->Iv:=fun a0=>(zfA a0).get
def t_spec_EccI (a0:Ell):Tr (Iv):=
 let c1:=zcQ a0;.leaf (zM c1 (zO (zA ⟨2,rfl⟩) c1))
def zfk:Ell->Iv:=fun a0=>(t_spec_EccI a0).get
def t_spec_l12W (a0:Ell) (a1:Iv):Tr (Iv):=
 .leaf (zO (zA ⟨1,rfl⟩) (zM (zfk a0) (zaD (za9 a1))))
def F_spec_l12W:Ell->Iv->Iv:=fun a0 a1=>(t_spec_l12W a0 a1).get
def t_spec_RadiusN (a0:Ell) (a1:Iv):Tr (Iv):=
 .leaf (zU (zbT a0) (zbY (F_spec_l12W a0 a1)))
def zeY:Ell->Iv->Iv:=fun a0 a1=>(t_spec_RadiusN a0 a1).get
def t_spec_l15Flat (a0:Vec):Tr (Iv):=
 .leaf (za3 ⟨a0.x,a0.y,⟨⟨0,rfl⟩,⟨0,rfl⟩⟩⟩)
def zch:Vec->Iv:=fun a0=>(t_spec_l15Flat a0).get
def t_spec_MinorI (a0:Ell):Tr (Iv):=
 .br (!(zak a0)) (.leaf zn) (.leaf (zM (zbT a0) (zbE (Rng.w .i64 (a0.den.val-a0.num.val)) a0.den)))
def zcO:Ell->Iv:=fun a0=>(t_spec_MinorI a0).get
def t_spec_ValidEllipsoid (a0:Ell):Tr (Bool):=
 .leaf (zak a0)
def zeg:Ell->Bool:=fun a0=>(t_spec_ValidEllipsoid a0).get
def t_spec_SubV (a0:Vec) (a1:Vec):Tr (Vec):=
 .leaf ⟨(zO a0.x a1.x),(zO a0.y a1.y),(zO a0.z a1.z)⟩
def zeh:Vec->Vec->Vec:=fun a0 a1=>(t_spec_SubV a0 a1).get
def t_spec_InsideOf (a0:Ell) (a1:Vec):Tr (T2 I64 I64):=
 .br (!(zeg a0)) (.leaf ⟨⟨0,rfl⟩,⟨1,rfl⟩⟩) (.leaf ⟨(zcP (zaE (zaD (zU (zch a1) (zbT a0))) (zaD (zU a1.z (zcO a0)))) (zA ⟨1,rfl⟩)),⟨0,rfl⟩⟩)
def F_spec_InsideOf:Ell->Vec->T2 I64 I64:=fun a0 a1=>(t_spec_InsideOf a0 a1).get
end
end Go.Proofs.YtlolpmmloolieaaGreatDoor.Ev
namespace Go.Proofs.YtlolpmmloolieaaGreatDoor.Ev
open Go
theorem lat_eq {p:zdz} (h:za1 p=true):zfu p=zX p.lat:=by
 simp only [zfu,t_impl_LatOf,Tr.get,point_eq,h,Bool.not_true,cfl,radians_eq]
theorem lon_eq {p:zdz} (h:za1 p=true):zft p=zX p.lon:=by
 simp only [zft,t_impl_LonOf,Tr.get,point_eq,h,Bool.not_true,cfl,radians_eq]
theorem flat_eq (v:Vec):zej v=zch v:=by
 simp only [zej,zfC,zch,t_spec_l15Flat,Tr.get,norm_eq]
end Go.Proofs.YtlolpmmloolieaaGreatDoor.Ev
namespace Go.Proofs.YtlolpmmloolieaaGreatDoor.Ev
open Go
theorem ell_eq (e:Ell):zaG e=zak e:=by
 simp only [zaG,zcL,zak,t_spec_l12Ok,Tr.get,zct,zed]
 cases decide (1000<=e.a.val/\e.a.val<=100000000000)
 ·simp [ctr,cfl]
 cases decide (1<=e.den.val/\e.den.val<=1000000000000)
 ·simp [ctr,cfl]
 simp only [ctr]
 by_cases h:e.num.val>=0
 ·by_cases h2:e.num.val<=(Rng.w .i64 (e.den.val.tdiv 100)).val<;>simp [h,h2]
 ·simp [h]
theorem sell_eq (e:Ell):zeg e=zak e:=by simp only [zeg,t_spec_ValidEllipsoid,Tr.get]
theorem flatI_eq (e:Ell):zcS e=zcQ e:=by
 simp only [zcS,zd1,zcQ,zfA,Tr.get,ell_eq,quot_eq,zb3]
theorem major_eq (e:Ell):zdB e=zbT e:=by
 simp only [zdB,t_impl_MajorI,zbT,t_spec_MajorI,Tr.get,ell_eq,quot_eq,zb3]
theorem minor_eq (e:Ell):zfP e=zcO e:=by
 simp only [zfP,t_impl_MinorI,zcO,t_spec_MinorI,Tr.get,ell_eq,quot_eq,zb3,mulI_F,major_eq]
theorem ecc_eq (e:Ell):F_impl_EccI e=zfk e:=by
 simp only [F_impl_EccI,t_impl_EccI,zfk,t_spec_EccI,Tr.get,flatI_eq,mulI_F,sub_eq,integer_eq]
theorem oneLess_eq (x:Iv):zdT x=zO (zA ⟨1,rfl⟩) x:=by
 simp only [zdT,t_impl_oneLess,Tr.get,sub_eq,integer_eq]
theorem weight_eq (e:Ell) (s:Iv):zei e s=zO (zA ⟨1,rfl⟩) (zM (zfk e) (zaD s)):=by
 simp only [zei,zfB,Tr.get,oneLess_eq,ecc_eq,mulI_F,sqrI_F]
theorem radN_eq (e:Ell) (x:Iv):ze0 e x=zeY e x:=by
 simp only [ze0,t_impl_RadiusN,zeY,t_spec_RadiusN,F_spec_l12W,t_spec_l12W,Tr.get,weight_eq,major_eq,divI_F,sqrtI_eq,sinI_eq]
theorem hgt_eq {h:I64} (hh:zbG h=true):ze2 h=zbE h ⟨1000,rfl⟩:=by
 simp only [ze2,zeS,Tr.get,hh,q_G_impl,ctr,Bool.not_true,cfl,quot_eq]
theorem insideOf_eq (e:Ell) (v:Vec):zdm e v=F_spec_InsideOf e v:=by
 simp only [zdm,zfE,F_spec_InsideOf,t_spec_InsideOf,Tr.get,ell_eq,sell_eq,flat_eq,major_eq,minor_eq,divI_F,sqrI_F,add_eq,less_eq,integer_eq]
theorem subV_eq (a b:Vec):F_impl_SubV a b=zeh a b:=by simp only [F_impl_SubV,t_impl_SubV,zeh,t_spec_SubV,Tr.get,sub_eq]
def toC (e:Ell) (p:Place):Vec:=
 let c4:=zX p.pt.lat;let c5:=zX p.pt.lon;let c6:=zeY e c4;let c7:=zbE p.h ⟨1000,rfl⟩;let c10:=zM (zaE c6 c7) (zbi c4)
 ⟨zM c10 (zbi c5),zM c10 (za9 c5),zM (zaE (zM c6 (zO (zA ⟨1,rfl⟩) (zfk e))) c7) (za9 c4)⟩
theorem hgt_ok (h:I64):zbG h=zV h ⟨-20000000,rfl⟩ ⟨20000000000,rfl⟩:=by
 simp only [zbG,zea,Tr.get,zct,zed]
theorem plc_eq (p:Place):zac p=(za1 p.pt&&zV p.h ⟨-20000000,rfl⟩ ⟨20000000000,rfl⟩):=by
 simp only [zac,zdd,Tr.get,point_eq,hgt_ok]
 cases za1 p.pt<;>simp only [ctr,cfl,Bool.true_and,Bool.false_and]
theorem toC_eq {e:Ell} {p:Place} (h1:za1 p.pt=true) (h2:zV p.h ⟨-20000000,rfl⟩ ⟨20000000000,rfl⟩=true):zbF e p=toC e p:=by
 have h3:=hgt_eq (h:=p.h) (by rw [hgt_ok];exact h2)
 simp only [zbF,zdY,Tr.get,toC,lat_eq h1,lon_eq h1,h3,radN_eq,cosI_eq,sinI_eq,mulI_F,add_eq,ecc_eq,oneLess_eq]
theorem diffP_eq (e:Ell) (p q:Place):zcr e p q=bif !(zak e) then ⟨⟨⟨⟨0,rfl⟩,⟨0,rfl⟩⟩,⟨⟨0,rfl⟩,⟨0,rfl⟩⟩,⟨⟨0,rfl⟩,⟨0,rfl⟩⟩⟩,⟨1,rfl⟩⟩ else
  bif !(za1 p.pt&&zV p.h ⟨-20000000,rfl⟩ ⟨20000000000,rfl⟩) then ⟨⟨⟨⟨0,rfl⟩,⟨0,rfl⟩⟩,⟨⟨0,rfl⟩,⟨0,rfl⟩⟩,⟨⟨0,rfl⟩,⟨0,rfl⟩⟩⟩,⟨1,rfl⟩⟩ else
  bif !(za1 q.pt&&zV q.h ⟨-20000000,rfl⟩ ⟨20000000000,rfl⟩) then ⟨⟨⟨⟨0,rfl⟩,⟨0,rfl⟩⟩,⟨⟨0,rfl⟩,⟨0,rfl⟩⟩,⟨⟨0,rfl⟩,⟨0,rfl⟩⟩⟩,⟨1,rfl⟩⟩ else ⟨zeh (toC e q) (toC e p),⟨0,rfl⟩⟩:=by
 simp only [zcr,zes,Tr.get,ell_eq,plc_eq]
 cases zak e
 ·simp [ctr,cfl]
 cases h1:za1 p.pt
 ·simp [ctr,cfl]
 cases h2:zV p.h ⟨-20000000,rfl⟩ ⟨20000000000,rfl⟩
 ·simp [ctr,cfl]
 cases h3:za1 q.pt
 ·simp [ctr,cfl]
 cases h4:zV q.h ⟨-20000000,rfl⟩ ⟨20000000000,rfl⟩
 ·simp [ctr,cfl]
 simp only [Bool.and_self,Bool.not_true,cfl,toC_eq h1 h2,toC_eq h3 h4,subV_eq]
end Go.Proofs.YtlolpmmloolieaaGreatDoor.Ev
namespace Go.Proofs.YtlolpmmloolieaaGreatDoor.Ev
open Go
def Sub (a b:Iv):Prop:=za b=true->za a=true/\b.lo.val<=a.lo.val/\a.hi.val<=b.hi.val
theorem zfp {x y:I64} (h:(zG x y).b=true):(zG x y).a.val=x.val*y.val/4294967296:=by
 simp only [zG,zcm,Tr.get,mf32] at h ⊢
 cases h1:zB x
 ·rw [h1] at h;simp [ctr] at h
 cases h2:zB y
 ·rw [h1,h2] at h;simp [ctr,cfl] at h
 rw [h1,h2] at h
 simp only [Bool.not_true,cfl] at h ⊢
 unfold narrow at h ⊢
 split at h
 ·rename_i hr
  rw [if_pos hr]
  rcases end_cases (.w .i64 (x.val*y.val/4294967296)) true with e|⟨e,_⟩
  ·rw [e] at h;cases h
  ·rw [e];exact wi hr.1 hr.2
 ·rename_i hr
  rcases end_cases (.w .i64 0) false with e|⟨e,_⟩
  ·rw [e] at h;cases h
  ·have:(zae (.w .i64 0) false).b=false:=by simp only [zae,zce,Tr.get,Bool.not_false,ctr]
   rw [this] at h;cases h
theorem mulup_true {x y:I64} (h:(zS x y).b=true):(zS x y).a.val= -(-(x.val*y.val)/4294967296):=by
 simp only [zS,zd8,Tr.get] at h ⊢
 cases h1:zB x
 ·rw [h1] at h;simp [ctr] at h
 rw [h1] at h
 simp only [Bool.not_true,cfl] at h ⊢
 have hb:=ok_bd h1
 cases hd:(zG (.w .i64 (0-x.val)) y).b
 ·rw [hd] at h;simp [ctr] at h
 simp only [hd,Bool.not_true,cfl]
 have e:=zfp hd
 have en:(Rng.w .i64 (0-x.val)).val= -x.val:=by rw [wi (by omega) (by omega)];omega
 rw [en,Int.neg_mul] at e
 rcases zdw (.w .i64 (0-x.val)) y with k|⟨c,k,kc⟩
 ·rw [k] at hd;cases hd
 ·have kb:=ok_bd kc
  rw [k] at e ⊢
  simp only at e ⊢
  rw [wi (by omega) (by omega)]
  omega
theorem mulI_corner {a b:Iv} (h:za (zM a b)=true):za a=true/\za b=true /\
  ∀x y:I64,(x=a.lo\/x=a.hi)->(y=b.lo\/y=b.hi)->(zM a b).lo.val<=x.val*y.val/4294967296 /\ -(-(x.val*y.val)/4294967296)<=(zM a b).hi.val:=by
 have nw:∀ {P:Prop},za zn=true->P:=fun h=>by rw [zcH] at h;cases h
 simp only [zM,t_spec_MulI,Tr.get] at h ⊢
 cases ha:za a
 ·rw [ha] at h;exact nw h
 cases hb:za b
 ·rw [ha,hb] at h;exact nw h
 simp only [ha,hb,Bool.not_true,cfl] at h ⊢
 cases h1:(zG a.lo b.lo).b
 ·rw [h1] at h;exact nw h
 cases h2:(zS a.lo b.lo).b
 ·rw [h1,h2] at h;exact nw h
 cases h3:(zG a.lo b.hi).b
 ·rw [h1,h2,h3] at h;exact nw h
 cases h4:(zS a.lo b.hi).b
 ·rw [h1,h2,h3,h4] at h;exact nw h
 cases h5:(zG a.hi b.lo).b
 ·rw [h1,h2,h3,h4,h5] at h;exact nw h
 cases h6:(zS a.hi b.lo).b
 ·rw [h1,h2,h3,h4,h5,h6] at h;exact nw h
 cases h7:(zG a.hi b.hi).b
 ·rw [h1,h2,h3,h4,h5,h6,h7] at h;exact nw h
 cases h8:(zS a.hi b.hi).b
 ·rw [h1,h2,h3,h4,h5,h6,h7,h8] at h;exact nw h
 simp only [h1,h2,h3,h4,h5,h6,h7,h8,Bool.not_true,cfl] at h ⊢
 refine ⟨trivial,trivial,?_⟩
 have v1:=zfp h1
 have v2:=mulup_true h2
 have v3:=zfp h3
 have v4:=mulup_true h4
 have v5:=zfp h5
 have v6:=mulup_true h6
 have v7:=zfp h7
 have v8:=mulup_true h8
 generalize (zG a.lo b.lo).a=d1 at *
 generalize (zG a.lo b.hi).a=d2 at *
 generalize (zG a.hi b.lo).a=d3 at *
 generalize (zG a.hi b.hi).a=d4 at *
 generalize (zS a.lo b.lo).a=u1 at *
 generalize (zS a.lo b.hi).a=u2 at *
 generalize (zS a.hi b.lo).a=u3 at *
 generalize (zS a.hi b.hi).a=u4 at *
 have m1:=zfZ ⟨1152921504606846976,rfl⟩ d1
 have m2:=zfZ (zt ⟨1152921504606846976,rfl⟩ d1) d2
 have m3:=zfZ (zt (zt ⟨1152921504606846976,rfl⟩ d1) d2) d3
 have m4:=zfZ (zt (zt (zt ⟨1152921504606846976,rfl⟩ d1) d2) d3) d4
 have n1:=zfj ⟨-1152921504606846976,rfl⟩ u1
 have n2:=zfj (zo ⟨-1152921504606846976,rfl⟩ u1) u2
 have n3:=zfj (zo (zo ⟨-1152921504606846976,rfl⟩ u1) u2) u3
 have n4:=zfj (zo (zo (zo ⟨-1152921504606846976,rfl⟩ u1) u2) u3) u4
 generalize zt (zt (zt (zt ⟨1152921504606846976,rfl⟩ d1) d2) d3) d4=lo at *
 generalize zo (zo (zo (zo ⟨-1152921504606846976,rfl⟩ u1) u2) u3) u4=hi at *
 by_cases hm: -1152921504606846976<lo.val/\lo.val<=hi.val/\hi.val<1152921504606846976
 ·rw [zcX hm]
  simp only
  rintro x y (rfl|rfl) (rfl|rfl)
  ·omega
  ·omega
  ·omega
  ·omega
 ·rw [make_no hm] at h;exact nw h
theorem addI_val {a b:Iv} (h:za (zaE a b)=true):za a=true/\za b=true/\(zaE a b).lo.val=a.lo.val+b.lo.val/\(zaE a b).hi.val=a.hi.val+b.hi.val:=by
 simp only [zaE,t_spec_AddI,Tr.get] at h ⊢
 cases ha:za a
 ·rw [ha] at h;simp only [Bool.not_false,ctr,zcH] at h;cases h
 cases hb:za b
 ·rw [ha,hb] at h;simp only [Bool.not_false,Bool.not_true,ctr,cfl,zcH] at h;cases h
 simp only [ha,hb,Bool.not_true,cfl] at h ⊢
 have ba:=(zbW _).1 ha
 have bb:=(zbW _).1 hb
 have k1:(Rng.w .i64 (a.lo.val+b.lo.val)).val=a.lo.val+b.lo.val:=wi (by omega) (by omega)
 have k2:(Rng.w .i64 (a.hi.val+b.hi.val)).val=a.hi.val+b.hi.val:=wi (by omega) (by omega)
 by_cases hm: -1152921504606846976<(Rng.w .i64 (a.lo.val+b.lo.val)).val/\(Rng.w .i64 (a.lo.val+b.lo.val)).val<=(Rng.w .i64 (a.hi.val+b.hi.val)).val/\(Rng.w .i64 (a.hi.val+b.hi.val)).val<1152921504606846976
 ·rw [zcX hm];exact ⟨trivial,trivial,k1,k2⟩
 ·rw [make_no hm,zcH] at h;cases h
theorem subI_val {a b:Iv} (h:za (zO a b)=true):za a=true/\za b=true/\(zO a b).lo.val=a.lo.val-b.hi.val/\(zO a b).hi.val=a.hi.val-b.lo.val:=by
 simp only [zO,t_spec_SubI,Tr.get] at h ⊢
 cases ha:za a
 ·rw [ha] at h;simp only [Bool.not_false,ctr,zcH] at h;cases h
 cases hb:za b
 ·rw [ha,hb] at h;simp only [Bool.not_false,Bool.not_true,ctr,cfl,zcH] at h;cases h
 simp only [ha,hb,Bool.not_true,cfl] at h ⊢
 have ba:=(zbW _).1 ha
 have bb:=(zbW _).1 hb
 have k1:(Rng.w .i64 (a.lo.val-b.hi.val)).val=a.lo.val-b.hi.val:=wi (by omega) (by omega)
 have k2:(Rng.w .i64 (a.hi.val-b.lo.val)).val=a.hi.val-b.lo.val:=wi (by omega) (by omega)
 by_cases hm: -1152921504606846976<(Rng.w .i64 (a.lo.val-b.hi.val)).val/\(Rng.w .i64 (a.lo.val-b.hi.val)).val<=(Rng.w .i64 (a.hi.val-b.lo.val)).val/\(Rng.w .i64 (a.hi.val-b.lo.val)).val<1152921504606846976
 ·rw [zcX hm];exact ⟨trivial,trivial,k1,k2⟩
 ·rw [make_no hm,zcH] at h;cases h
end Go.Proofs.YtlolpmmloolieaaGreatDoor.Ev
namespace Go.Proofs.YtlolpmmloolieaaGreatDoor.Ev
open Go
theorem sqrI_val {a:Iv} (h:za (zaD a)=true):za a=true/\(zaD a).lo.val=(zF a).a.val*(zF a).a.val/4294967296/\(zaD a).hi.val= -(-((zF a).b.val*(zF a).b.val)/4294967296):=by
 have nw:∀ {P:Prop},za zn=true->P:=fun h=>by rw [zcH] at h;cases h
 simp only [zaD,t_spec_SqrI,Tr.get] at h ⊢
 cases ha:za a
 ·rw [ha] at h;exact nw h
 simp only [ha,Bool.not_true,cfl] at h ⊢
 cases h1:(zG (zF a).a (zF a).a).b
 ·rw [h1] at h;exact nw h
 cases h2:(zS (zF a).b (zF a).b).b
 ·rw [h1,h2] at h;exact nw h
 simp only [h1,h2,Bool.not_true,cfl] at h ⊢
 have v1:=zfp h1
 have v2:=mulup_true h2
 generalize (zG (zF a).a (zF a).a).a=lo at *
 generalize (zS (zF a).b (zF a).b).a=hi at *
 by_cases hm: -1152921504606846976<lo.val/\lo.val<=hi.val/\hi.val<1152921504606846976
 ·rw [zcX hm];exact ⟨trivial,v1,v2⟩
 ·rw [make_no hm] at h;exact nw h
theorem su_val2 (a:I64) (ha:0<=a.val/\a.val<=1152921504606846976):∃q p:I64,zbC a=⟨q,true⟩/\zbp a=⟨p,true⟩/\0<=q.val/\q.val<=70368744177664/\q.val*q.val<=a.val*4294967296/\a.val*4294967296<(q.val+1)*(q.val+1)/\q.val<=p.val/\p.val<=q.val+1/\a.val*4294967296<=p.val*p.val/\(q.val<p.val->q.val*q.val<a.val*4294967296):=by
 obtain ⟨q,h1,h2,h3,h4,h5,h6⟩:=sd_val a ha
 have e1:(Rng.w .i64 (q.val+1)).val=q.val+1:=wi (by omega) (by omega)
 have hqq:=Int.mul_nonneg h3 h3
 have hmf:zaz q q ⟨32,rfl⟩=⟨.w .i64 (q.val*q.val/4294967296),true⟩:=by rw [mf32];exact narrow_ok (by omega) (by omega)
 have hmv:(Rng.w .i64 (q.val*q.val/4294967296)).val=q.val*q.val/4294967296:=wi (by omega) (by omega)
 have hmask:(Rng.w .i64 (zaN .and .i64 (Rng.w .i64 (q.val*q.val)).val 4294967295)).val=q.val*q.val%4294967296:=by rw [and_mask_i,zc7];omega
 by_cases hx:q.val*q.val=a.val*4294967296
 ·refine ⟨q,q,h1,?_,h3,h4,h5,h6,Int.le_refl _,by omega,by omega,fun h=>by omega⟩
  have k1:(q.val*q.val/4294967296 != a.val)=false:=by simp;omega
  have k2:(q.val*q.val%4294967296 != 0)=false:=by simp;omega
  simp only [zbp,zbJ,Tr.get,sd_G_spec,h1,hmf,hmv,hmask,k1,k2,Bool.not_true,cond_false,cond_true]
 ·refine ⟨q,.w .i64 (q.val+1),h1,?_,h3,h4,h5,h6,by omega,by omega,by rw [e1];omega,fun h=>by omega⟩
  simp only [zbp,zbJ,Tr.get,sd_G_spec,h1,hmf,hmv,hmask,Bool.not_true,cond_false,cond_true]
  by_cases k1:q.val*q.val/4294967296=a.val
  ·have k2:(q.val*q.val%4294967296 != 0)=true:=by simp;omega
   have k3:(q.val*q.val/4294967296 != a.val)=false:=by simp [k1]
   simp only [k2,k3,cond_true,cond_false]
  ·have k3:(q.val*q.val/4294967296 != a.val)=true:=by simp [k1]
   simp only [k3,cond_true]
theorem sqrtI_mk {a:Iv} (ha:za a=true) (h0:0<=a.lo.val):za (zbY a)=true/\(zbY a).lo=(zbC a.lo).a/\(zbY a).hi=(zbp a.hi).a:=by
 have hb:=(zbW _).1 ha
 obtain ⟨q,p,e1,e2,h1,h2,h3,h4,h5,h6,h7,h8⟩:=su_val2 a.lo (by omega)
 obtain ⟨q',p',e1',e2',h1',h2',h3',h4',h5',h6',h7',h8'⟩:=su_val2 a.hi (by omega)
 have hle:q.val<=p'.val:=by
  refine sq_lt h1 (by omega) ?_
  omega
 have hd:decide (a.lo.val<0)=false:=by simp;omega
 have e:zbY a=⟨q,p'⟩:=by
  simp only [zbY,t_spec_SqrtI,Tr.get,ha,hd,sd_G_spec,su_G_spec,e1,e2',Bool.not_true,cfl,ctr]
  exact zcX (by omega)
 rw [e,e1,e2']
 exact ⟨(zbW _).2 (by simp only;omega),rfl,rfl⟩
theorem sqrtI_nn {a:Iv} (h:za (zbY a)=true):za a=true/\0<=a.lo.val:=by
 have nw:∀ {P:Prop},za zn=true->P:=fun h=>by rw [zcH] at h;cases h
 simp only [zbY,t_spec_SqrtI,Tr.get] at h
 cases ha:za a
 ·rw [ha] at h;exact nw h
 by_cases h0:a.lo.val<0
 ·rw [ha,show decide (a.lo.val<0)=true by simpa using h0] at h;exact nw h
 ·exact ⟨rfl,by omega⟩
theorem divdown_true {x y:I64} (hy:0<y.val) (h:(zD x y).b=true):(zD x y).a.val=x.val*4294967296/y.val:=by
 have z0:(y.val==0)=false:=by simp;omega
 have z1:decide (y.val<0)=false:=by simp;omega
 simp only [zD,zbt,Tr.get,zdH,z0,z1,cfl] at h ⊢
 cases h1:zB x
 ·rw [h1] at h;simp [ctr] at h
 cases h2:zB y
 ·rw [h1,h2] at h;simp [ctr,cfl] at h
 rw [h1,h2] at h
 simp only [Bool.not_true,cfl,MD,hy,if_true] at h ⊢
 unfold narrow at h ⊢
 split at h
 ·rename_i hr
  rw [if_pos hr]
  rcases end_cases (.w .i64 (x.val*4294967296/y.val)) true with e|⟨e,_⟩
  ·rw [e] at h;cases h
  ·rw [e];exact wi hr.1 hr.2
 ·have:(zae (.w .i64 0) false).b=false:=by simp only [zae,zce,Tr.get,Bool.not_false,ctr]
  rw [this] at h;cases h
theorem divup_true {x y:I64} (hy:0<y.val) (h:(zN x y).b=true):(zN x y).a.val= -(-x.val*4294967296/y.val):=by
 simp only [zN,zc8,Tr.get] at h ⊢
 cases h1:zB x
 ·rw [h1] at h;simp [ctr] at h
 rw [h1] at h
 simp only [Bool.not_true,cfl] at h ⊢
 have hb:=ok_bd h1
 have e:=divdown_true hy h
 have en:(Rng.w .i64 (0-x.val)).val= -x.val:=by rw [wi (by omega) (by omega)];omega
 rw [en] at e
 rcases zdy (.w .i64 (0-x.val)) y with k|⟨c,k,kc⟩
 ·rw [k] at h;cases h
 ·have kb:=ok_bd kc
  rw [k] at e ⊢
  simp only at e ⊢
  rw [wi (by omega) (by omega)]
  omega
theorem divI_corner {a b:Iv} (h0:0<b.lo.val) (h:za (zU a b)=true):za a=true/\za b=true /\
  ∀x y:I64,(x=a.lo\/x=a.hi)->(y=b.lo\/y=b.hi)->(zU a b).lo.val<=x.val*4294967296/y.val /\ -(-x.val*4294967296/y.val)<=(zU a b).hi.val:=by
 have nw:∀ {P:Prop},za zn=true->P:=fun h=>by rw [zcH] at h;cases h
 simp only [zU,zfX,Tr.get] at h ⊢
 cases ha:za a
 ·rw [ha] at h;exact nw h
 cases hb:za b
 ·rw [ha,hb] at h;exact nw h
 have bb:=(zbW _).1 hb
 have h0':0<b.hi.val:=by omega
 cases hz:zaL b ⟨0,rfl⟩
 case true=>rw [ha,hb,hz] at h;exact nw h
 simp only [ha,hb,hz,Bool.not_true,cfl] at h ⊢
 cases h1:(zD a.lo b.lo).b
 ·rw [h1] at h;exact nw h
 cases h2:(zN a.lo b.lo).b
 ·rw [h1,h2] at h;exact nw h
 cases h3:(zD a.lo b.hi).b
 ·rw [h1,h2,h3] at h;exact nw h
 cases h4:(zN a.lo b.hi).b
 ·rw [h1,h2,h3,h4] at h;exact nw h
 cases h5:(zD a.hi b.lo).b
 ·rw [h1,h2,h3,h4,h5] at h;exact nw h
 cases h6:(zN a.hi b.lo).b
 ·rw [h1,h2,h3,h4,h5,h6] at h;exact nw h
 cases h7:(zD a.hi b.hi).b
 ·rw [h1,h2,h3,h4,h5,h6,h7] at h;exact nw h
 cases h8:(zN a.hi b.hi).b
 ·rw [h1,h2,h3,h4,h5,h6,h7,h8] at h;exact nw h
 simp only [h1,h2,h3,h4,h5,h6,h7,h8,Bool.not_true,cfl] at h ⊢
 refine ⟨trivial,trivial,?_⟩
 have v1:=divdown_true h0 h1
 have v2:=divup_true h0 h2
 have v3:=divdown_true h0' h3
 have v4:=divup_true h0' h4
 have v5:=divdown_true h0 h5
 have v6:=divup_true h0 h6
 have v7:=divdown_true h0' h7
 have v8:=divup_true h0' h8
 generalize (zD a.lo b.lo).a=d1 at *
 generalize (zD a.lo b.hi).a=d2 at *
 generalize (zD a.hi b.lo).a=d3 at *
 generalize (zD a.hi b.hi).a=d4 at *
 generalize (zN a.lo b.lo).a=u1 at *
 generalize (zN a.lo b.hi).a=u2 at *
 generalize (zN a.hi b.lo).a=u3 at *
 generalize (zN a.hi b.hi).a=u4 at *
 have m1:=zfZ ⟨1152921504606846976,rfl⟩ d1
 have m2:=zfZ (zt ⟨1152921504606846976,rfl⟩ d1) d2
 have m3:=zfZ (zt (zt ⟨1152921504606846976,rfl⟩ d1) d2) d3
 have m4:=zfZ (zt (zt (zt ⟨1152921504606846976,rfl⟩ d1) d2) d3) d4
 have n1:=zfj ⟨-1152921504606846976,rfl⟩ u1
 have n2:=zfj (zo ⟨-1152921504606846976,rfl⟩ u1) u2
 have n3:=zfj (zo (zo ⟨-1152921504606846976,rfl⟩ u1) u2) u3
 have n4:=zfj (zo (zo (zo ⟨-1152921504606846976,rfl⟩ u1) u2) u3) u4
 generalize zt (zt (zt (zt ⟨1152921504606846976,rfl⟩ d1) d2) d3) d4=lo at *
 generalize zo (zo (zo (zo ⟨-1152921504606846976,rfl⟩ u1) u2) u3) u4=hi at *
 by_cases hm: -1152921504606846976<lo.val/\lo.val<=hi.val/\hi.val<1152921504606846976
 ·rw [zcX hm]
  simp only
  rintro x y (rfl|rfl) (rfl|rfl)
  ·omega
  ·omega
  ·omega
  ·omega
 ·rw [make_no hm] at h;exact nw h
end Go.Proofs.YtlolpmmloolieaaGreatDoor.Ev
