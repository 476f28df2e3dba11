/- The law FnCylinders gives true, whatever bytes come in, where the listed tables hold what the program's text lays. The card: the tables tied to the text. No other conditions. (One of the texts of its proof, put together by a program of this session.) -/
import Derived.Test.YtkenfaengphiiaaGreatDoorZEC
import Derived.Test.YtkenfaengphiiaaGreatDoorChecked
import Derived.KernelRfl
set_option linter.unusedSectionVars false
set_option linter.unusedSimpArgs false
set_option linter.unusedVariables false
noncomputable section
namespace Go.Proofs.YtkenfaengphiiaaGreatDoor.Ev
open Go Go.RowKit
set_option maxRecDepth 100000
section
variable [Amb]
theorem mix:Tryz.prog.follows .mixedOrders=true:=by kernel_rfl
def B61:Bod Tryz.prog:=⟨61,Tryz.f61,Tryz.f61.body.getD .skip,Tryz.func61,by kernel_rfl,by kernel_rfl,zav.no _ _⟩
def Tb61:Tb Tryz.prog:= {T:= [],mix:=mix,Es:= [],Bs:= [],d:=1}
def zkx (a0:I64) (a1:I64) (a2:I64):Tr (Bool):=
 .br (decide (a0.val>=a1.val)) (.leaf (decide (a0.val<=a2.val))) (.leaf false)
theorem zwM (a0:I64) (a1:I64) (a2:I64):Tb61.run B61 [enc a0,enc a1,enc a2] (Bool)=(zkx a0 a1 a2).opt:=by kernel_rfl
def zX:I64->I64->I64->Bool:=fun a0 a1 a2=>(zkx a0 a1 a2).get
theorem zwg (a0:I64) (a1:I64) (a2:I64):(zkx a0 a1 a2).opt=some (zX a0 a1 a2):=Tr.z8 (by kernel_rfl)
def zhy:Ent Tryz.prog:= .of3 Tb61 B61 (fun _ _ _=>true) zX fun a0 a1 a2 _=>(zwM a0 a1 a2).trans (zwg a0 a1 a2)
def Y2:TyE Tryz.prog:=⟨2,1,(.int .i64),[.i64 ⟨0,rfl⟩],false,by kernel_rfl,by kernel_rfl,by kernel_rfl,by kernel_rfl,by kernel_rfl,by kernel_rfl⟩
def Y27:TyE Tryz.prog:=⟨27,2,(.struct [(0,2,1),(1,2,1)]),[.i64 ⟨0,rfl⟩,.i64 ⟨0,rfl⟩],true,by kernel_rfl,by kernel_rfl,by kernel_rfl,by kernel_rfl,by kernel_rfl,by kernel_rfl⟩
def B22:Bod Tryz.prog:=⟨22,Tryz.f22,Tryz.f22.body.getD .skip,Tryz.func22,by kernel_rfl,by kernel_rfl,zav.no _ _⟩
def Tb22:Tb Tryz.prog:= {T:= [Y2,Y27],mix:=mix,Es:= [zhy],Bs:= [],d:=1}
def ziV (a0:zbk):Tr (Bool):=
 .br (zX a0.lat ⟨(-900000000),rfl⟩ ⟨900000000,rfl⟩) (.leaf (zX a0.lon ⟨(-1799999999),rfl⟩ ⟨1800000000,rfl⟩)) (.leaf false)
theorem zwI (a0:zbk):Tb22.run B22 [enc a0] (Bool)=(ziV a0).opt:=by kernel_rfl
def zay:zbk->Bool:=fun a0=>(ziV a0).get
theorem zwc (a0:zbk):(ziV a0).opt=some (zay a0):=Tr.z8 (by kernel_rfl)
def zmZ:Ent Tryz.prog:= .of1 Tb22 B22 (fun _=>true) zay fun a0 _=>(zwI a0).trans (zwc a0)
def B74:Bod Tryz.prog:=⟨74,Tryz.f74,Tryz.f74.body.getD .skip,Tryz.func74,by kernel_rfl,by kernel_rfl,zav.no _ _⟩
def Tb74:Tb Tryz.prog:= {T:= [],mix:=mix,Es:= [],Bs:= [],d:=1}
def zjv (a0:I64) (a1:I64) (a2:I64):Tr (Bool):=
 .br (decide (a0.val>=a1.val)) (.leaf (decide (a0.val<=a2.val))) (.leaf false)
theorem zvf (a0:I64) (a1:I64) (a2:I64):Tb74.run B74 [enc a0,enc a1,enc a2] (Bool)=(zjv a0 a1 a2).opt:=by kernel_rfl
def zaw:I64->I64->I64->Bool:=fun a0 a1 a2=>(zjv a0 a1 a2).get
theorem zuL (a0:I64) (a1:I64) (a2:I64):(zjv a0 a1 a2).opt=some (zaw a0 a1 a2):=Tr.z8 (by kernel_rfl)
def za1:Ent Tryz.prog:= .of3 Tb74 B74 (fun _ _ _=>true) zaw fun a0 a1 a2 _=>(zvf a0 a1 a2).trans (zuL a0 a1 a2)
def B29:Bod Tryz.prog:=⟨29,Tryz.f29,Tryz.f29.body.getD .skip,Tryz.func29,by kernel_rfl,by kernel_rfl,zav.no _ _⟩
def Tb29:Tb Tryz.prog:= {T:= [Y2,Y27],mix:=mix,Es:= [za1],Bs:= [],d:=1}
def zdC (a0:zbk):Tr (Bool):=
 .br (zaw a0.lat ⟨(-900000000),rfl⟩ ⟨900000000,rfl⟩) (.br (decide (a0.lon.val>(-1800000000))) (.leaf (decide (a0.lon.val<=1800000000))) (.leaf false)) (.leaf false)
theorem zpl (a0:zbk):Tb29.run B29 [enc a0] (Bool)=(zdC a0).opt:=by kernel_rfl
def zbH:zbk->Bool:=fun a0=>(zdC a0).get
theorem zo5 (a0:zbk):(zdC a0).opt=some (zbH a0):=Tr.z8 (by kernel_rfl)
def zgv:Ent Tryz.prog:= .of1 Tb29 B29 (fun _=>true) zbH fun a0 _=>(zpl a0).trans (zo5 a0)
def B75:Bod Tryz.prog:=⟨75,Tryz.f75,Tryz.f75.body.getD .skip,Tryz.func75,by kernel_rfl,by kernel_rfl,zav.no _ _⟩
def Tb75:Tb Tryz.prog:= {T:= [],mix:=mix,Es:= [za1],Bs:= [],d:=1}
def zex (a0:I64):Tr (Bool):=
 .leaf (zaw a0 ⟨(-890000000),rfl⟩ ⟨890000000,rfl⟩)
theorem zpi (a0:I64):Tb75.run B75 [enc a0] (Bool)=(zex a0).opt:=by kernel_rfl
def zdH:I64->Bool:=fun a0=>(zex a0).get
theorem zo2 (a0:I64):(zex a0).opt=some (zdH a0):=Tr.z8 (by kernel_rfl)
def zpR:Ent Tryz.prog:= .of1 Tb75 B75 (fun _=>true) zdH fun a0 _=>(zpi a0).trans (zo2 a0)
def B76:Bod Tryz.prog:=⟨76,Tryz.f76,Tryz.f76.body.getD .skip,Tryz.func76,by kernel_rfl,by kernel_rfl,zav.no _ _⟩
def Tb76:Tb Tryz.prog:= {T:= [],mix:=mix,Es:= [za1],Bs:= [],d:=1}
def zfA (a0:I64):Tr (Bool):=
 .leaf (zaw a0 ⟨5,rfl⟩ ⟨9,rfl⟩)
theorem zoj (a0:I64):Tb76.run B76 [enc a0] (Bool)=(zfA a0).opt:=by kernel_rfl
def zfG:I64->Bool:=fun a0=>(zfA a0).get
theorem zn5 (a0:I64):(zfA a0).opt=some (zfG a0):=Tr.z8 (by kernel_rfl)
def zoV:Ent Tryz.prog:= .of1 Tb76 B76 (fun _=>true) zfG fun a0 _=>(zoj a0).trans (zn5 a0)
def B77:Bod Tryz.prog:=⟨77,Tryz.f77,Tryz.f77.body.getD .skip,Tryz.func77,by kernel_rfl,by kernel_rfl,zav.no _ _⟩
def Tb77:Tb Tryz.prog:= {T:= [],mix:=mix,Es:= [za1],Bs:= [],d:=1}
def ziD (a0:I64):Tr (Bool):=
 .leaf (zaw a0 ⟨10,rfl⟩ ⟨12,rfl⟩)
theorem ztd (a0:I64):Tb77.run B77 [enc a0] (Bool)=(ziD a0).opt:=by kernel_rfl
def zN:I64->Bool:=fun a0=>(ziD a0).get
theorem zsK (a0:I64):(ziD a0).opt=some (zN a0):=Tr.z8 (by kernel_rfl)
def ztK:Ent Tryz.prog:= .of1 Tb77 B77 (fun _=>true) zN fun a0 _=>(ztd a0).trans (zsK a0)
def B78:Bod Tryz.prog:=⟨78,Tryz.f78,Tryz.f78.body.getD .skip,Tryz.func78,by kernel_rfl,by kernel_rfl,zav.no _ _⟩
def Tb78:Tb Tryz.prog:= {T:= [],mix:=mix,Es:= [],Bs:= [],d:=1}
def zlj (a0:I64):Tr (I64):=
 .leaf (mx a0 (Rng.w .i64 (0-a0.val)))
theorem zBd (a0:I64):Tb78.run B78 [enc a0] (I64)=(zlj a0).opt:=by kernel_rfl
def zaD:I64->I64:=fun a0=>(zlj a0).get
theorem zAW (a0:I64):(zlj a0).opt=some (zaD a0):=Tr.z8 (by kernel_rfl)
def zpS:Ent Tryz.prog:= .of1 Tb78 B78 (fun _=>true) zaD fun a0 _=>(zBd a0).trans (zAW a0)
def Y25:TyE Tryz.prog:=⟨25,5,(.struct [(0,2,1),(1,2,1),(2,2,1),(3,2,1),(4,2,1)]),[.i64 ⟨0,rfl⟩,.i64 ⟨0,rfl⟩,.i64 ⟨0,rfl⟩,.i64 ⟨0,rfl⟩,.i64 ⟨0,rfl⟩],true,by kernel_rfl,by kernel_rfl,by kernel_rfl,by kernel_rfl,by kernel_rfl,by kernel_rfl⟩
def B27:Bod Tryz.prog:=⟨27,Tryz.f27,Tryz.f27.body.getD .skip,Tryz.func27,by kernel_rfl,by kernel_rfl,zav.no _ _⟩
def Tb27:Tb Tryz.prog:= {T:= [Y2,Y25,Y27],mix:=mix,Es:= [zgv,za1,zpR,zoV,ztK,zpS],Bs:= [],d:=1}
def zcb (a0:Proj):Tr (Bool):=
 .br (!(zaw a0.kind ⟨1,rfl⟩ ⟨16,rfl⟩)) (.leaf false) (.br (!(zbH ⟨a0.lat0,a0.lon0⟩)) (.leaf false) (.br (!(zdH a0.lat1)) (.leaf false) (.br (!(zdH a0.lat2)) (.leaf false) (.br (zfG a0.kind) (.br (zN a0.kind) (.br (!(zN a0.kind)) (.br (a0.lat2.val != 0) (.leaf false) (.br (!(zN a0.kind)) (.leaf true) (.leaf (decide ((zaD (Rng.w .i64 (a0.lat1.val+a0.lat2.val))).val>=10000000))))) (.br (!(zN a0.kind)) (.leaf true) (.leaf (decide ((zaD (Rng.w .i64 (a0.lat1.val+a0.lat2.val))).val>=10000000))))) (.br (a0.kind.val==1) (.br (!(zN a0.kind)) (.br (a0.lat2.val != 0) (.leaf false) (.br (!(zN a0.kind)) (.leaf true) (.leaf (decide ((zaD (Rng.w .i64 (a0.lat1.val+a0.lat2.val))).val>=10000000))))) (.br (!(zN a0.kind)) (.leaf true) (.leaf (decide ((zaD (Rng.w .i64 (a0.lat1.val+a0.lat2.val))).val>=10000000))))) (.br (!(a0.kind.val==3)) (.br (a0.lat1.val != 0) (.leaf false) (.br (!(zN a0.kind)) (.br (a0.lat2.val != 0) (.leaf false) (.br (!(zN a0.kind)) (.leaf true) (.leaf (decide ((zaD (Rng.w .i64 (a0.lat1.val+a0.lat2.val))).val>=10000000))))) (.br (!(zN a0.kind)) (.leaf true) (.leaf (decide ((zaD (Rng.w .i64 (a0.lat1.val+a0.lat2.val))).val>=10000000)))))) (.br (!(zN a0.kind)) (.br (a0.lat2.val != 0) (.leaf false) (.br (!(zN a0.kind)) (.leaf true) (.leaf (decide ((zaD (Rng.w .i64 (a0.lat1.val+a0.lat2.val))).val>=10000000))))) (.br (!(zN a0.kind)) (.leaf true) (.leaf (decide ((zaD (Rng.w .i64 (a0.lat1.val+a0.lat2.val))).val>=10000000)))))))) (.br (zN a0.kind) (.br (zN a0.kind) (.br (!(zN a0.kind)) (.br (a0.lat2.val != 0) (.leaf false) (.br (!(zN a0.kind)) (.leaf true) (.leaf (decide ((zaD (Rng.w .i64 (a0.lat1.val+a0.lat2.val))).val>=10000000))))) (.br (!(zN a0.kind)) (.leaf true) (.leaf (decide ((zaD (Rng.w .i64 (a0.lat1.val+a0.lat2.val))).val>=10000000))))) (.br (a0.kind.val==1) (.br (!(zN a0.kind)) (.br (a0.lat2.val != 0) (.leaf false) (.br (!(zN a0.kind)) (.leaf true) (.leaf (decide ((zaD (Rng.w .i64 (a0.lat1.val+a0.lat2.val))).val>=10000000))))) (.br (!(zN a0.kind)) (.leaf true) (.leaf (decide ((zaD (Rng.w .i64 (a0.lat1.val+a0.lat2.val))).val>=10000000))))) (.br (!(a0.kind.val==3)) (.br (a0.lat1.val != 0) (.leaf false) (.br (!(zN a0.kind)) (.br (a0.lat2.val != 0) (.leaf false) (.br (!(zN a0.kind)) (.leaf true) (.leaf (decide ((zaD (Rng.w .i64 (a0.lat1.val+a0.lat2.val))).val>=10000000))))) (.br (!(zN a0.kind)) (.leaf true) (.leaf (decide ((zaD (Rng.w .i64 (a0.lat1.val+a0.lat2.val))).val>=10000000)))))) (.br (!(zN a0.kind)) (.br (a0.lat2.val != 0) (.leaf false) (.br (!(zN a0.kind)) (.leaf true) (.leaf (decide ((zaD (Rng.w .i64 (a0.lat1.val+a0.lat2.val))).val>=10000000))))) (.br (!(zN a0.kind)) (.leaf true) (.leaf (decide ((zaD (Rng.w .i64 (a0.lat1.val+a0.lat2.val))).val>=10000000)))))))) (.br (zN a0.kind) (.br (!(a0.kind.val==16)) (.br (a0.lat0.val != 0) (.leaf false) (.br (!(zN a0.kind)) (.br (a0.lat2.val != 0) (.leaf false) (.br (!(zN a0.kind)) (.leaf true) (.leaf (decide ((zaD (Rng.w .i64 (a0.lat1.val+a0.lat2.val))).val>=10000000))))) (.br (!(zN a0.kind)) (.leaf true) (.leaf (decide ((zaD (Rng.w .i64 (a0.lat1.val+a0.lat2.val))).val>=10000000)))))) (.br (!(zN a0.kind)) (.br (a0.lat2.val != 0) (.leaf false) (.br (!(zN a0.kind)) (.leaf true) (.leaf (decide ((zaD (Rng.w .i64 (a0.lat1.val+a0.lat2.val))).val>=10000000))))) (.br (!(zN a0.kind)) (.leaf true) (.leaf (decide ((zaD (Rng.w .i64 (a0.lat1.val+a0.lat2.val))).val>=10000000)))))) (.br (a0.kind.val==1) (.br (!(a0.kind.val==16)) (.br (a0.lat0.val != 0) (.leaf false) (.br (!(zN a0.kind)) (.br (a0.lat2.val != 0) (.leaf false) (.br (!(zN a0.kind)) (.leaf true) (.leaf (decide ((zaD (Rng.w .i64 (a0.lat1.val+a0.lat2.val))).val>=10000000))))) (.br (!(zN a0.kind)) (.leaf true) (.leaf (decide ((zaD (Rng.w .i64 (a0.lat1.val+a0.lat2.val))).val>=10000000)))))) (.br (!(zN a0.kind)) (.br (a0.lat2.val != 0) (.leaf false) (.br (!(zN a0.kind)) (.leaf true) (.leaf (decide ((zaD (Rng.w .i64 (a0.lat1.val+a0.lat2.val))).val>=10000000))))) (.br (!(zN a0.kind)) (.leaf true) (.leaf (decide ((zaD (Rng.w .i64 (a0.lat1.val+a0.lat2.val))).val>=10000000)))))) (.br (!(a0.kind.val==16)) (.br (a0.lat0.val != 0) (.leaf false) (.br (!(a0.kind.val==3)) (.br (a0.lat1.val != 0) (.leaf false) (.br (!(zN a0.kind)) (.br (a0.lat2.val != 0) (.leaf false) (.br (!(zN a0.kind)) (.leaf true) (.leaf (decide ((zaD (Rng.w .i64 (a0.lat1.val+a0.lat2.val))).val>=10000000))))) (.br (!(zN a0.kind)) (.leaf true) (.leaf (decide ((zaD (Rng.w .i64 (a0.lat1.val+a0.lat2.val))).val>=10000000)))))) (.br (!(zN a0.kind)) (.br (a0.lat2.val != 0) (.leaf false) (.br (!(zN a0.kind)) (.leaf true) (.leaf (decide ((zaD (Rng.w .i64 (a0.lat1.val+a0.lat2.val))).val>=10000000))))) (.br (!(zN a0.kind)) (.leaf true) (.leaf (decide ((zaD (Rng.w .i64 (a0.lat1.val+a0.lat2.val))).val>=10000000))))))) (.br (!(a0.kind.val==3)) (.br (a0.lat1.val != 0) (.leaf false) (.br (!(zN a0.kind)) (.br (a0.lat2.val != 0) (.leaf false) (.br (!(zN a0.kind)) (.leaf true) (.leaf (decide ((zaD (Rng.w .i64 (a0.lat1.val+a0.lat2.val))).val>=10000000))))) (.br (!(zN a0.kind)) (.leaf true) (.leaf (decide ((zaD (Rng.w .i64 (a0.lat1.val+a0.lat2.val))).val>=10000000)))))) (.br (!(zN a0.kind)) (.br (a0.lat2.val != 0) (.leaf false) (.br (!(zN a0.kind)) (.leaf true) (.leaf (decide ((zaD (Rng.w .i64 (a0.lat1.val+a0.lat2.val))).val>=10000000))))) (.br (!(zN a0.kind)) (.leaf true) (.leaf (decide ((zaD (Rng.w .i64 (a0.lat1.val+a0.lat2.val))).val>=10000000))))))))))))))
theorem zmq (a0:Proj):Tb27.run B27 [enc a0] (Bool)=(zcb a0).opt:=by kernel_rfl
def zZ:Proj->Bool:=fun a0=>(zcb a0).get
theorem zmn (a0:Proj):(zcb a0).opt=some (zZ a0):=Tr.z8 (by kernel_rfl)
def zcK:Ent Tryz.prog:= .of1 Tb27 B27 (fun _=>true) zZ fun a0 _=>(zmq a0).trans (zmn a0)
end
end Go.Proofs.YtkenfaengphiiaaGreatDoor.Ev
namespace Go.Proofs.YtkenfaengphiiaaGreatDoor.Ev
open Go Go.RowKit
set_option maxRecDepth 100000
section
variable [Amb]
def zpP:Ent Tryz.prog:= .add64 Tryz.func183 (by kernel_rfl) (by kernel_rfl) (by kernel_rfl) (by kernel_rfl)
def zpM:Ent Tryz.prog:= .sub64 Tryz.func216 (by kernel_rfl) (by kernel_rfl) (by kernel_rfl) (by kernel_rfl)
def B81:Bod Tryz.prog:=⟨81,Tryz.f81,Tryz.f81.body.getD .skip,Tryz.func81,by kernel_rfl,by kernel_rfl,zav.no _ _⟩
def Tb81:Tb Tryz.prog:= {T:= [],mix:=mix,Es:= [],Bs:= [],d:=1}
def ziG (a0:I64):Tr (I64):=
 let c1:=(Rng.w .i64 (a0.val.tmod 3600000000));.br (decide (c1.val>1800000000)) (.leaf (Rng.w .i64 (c1.val-3600000000))) (.br (decide (c1.val<=(-1800000000))) (.leaf (Rng.w .i64 (c1.val+3600000000))) (.leaf c1))
theorem zth (a0:I64):Tb81.run B81 [enc a0] (I64)=(ziG a0).opt:=by kernel_rfl
def zgU:I64->I64:=fun a0=>(ziG a0).get
theorem zsN (a0:I64):(ziG a0).opt=some (zgU a0):=Tr.z8 (by kernel_rfl)
def ztM:Ent Tryz.prog:= .of1 Tb81 B81 (fun _=>true) zgU fun a0 _=>(zth a0).trans (zsN a0)
def B52:Bod Tryz.prog:=⟨52,Tryz.f52,Tryz.f52.body.getD .skip,Tryz.func52,by kernel_rfl,by kernel_rfl,zav.no _ _⟩
def Tb52:Tb Tryz.prog:= {T:= [],mix:=mix,Es:= [],Bs:= [],d:=1}
def zgE (a0:I64):Tr (I64):=
 let c1:=(Rng.w .i64 (a0.val.tmod 3600000000));.br (decide (c1.val>1800000000)) (let c3:=(Rng.w .i64 (c1.val-3600000000));.br (decide (c3.val<=(-1800000000))) (.leaf (Rng.w .i64 (c3.val+3600000000))) (.leaf c3)) (.br (decide (c1.val<=(-1800000000))) (.leaf (Rng.w .i64 (c1.val+3600000000))) (.leaf c1))
theorem zs2 (a0:I64):Tb52.run B52 [enc a0] (I64)=(zgE a0).opt:=by kernel_rfl
def zbn:I64->I64:=fun a0=>(zgE a0).get
theorem zsz (a0:I64):(zgE a0).opt=some (zbn a0):=Tr.z8 (by kernel_rfl)
def znz:Ent Tryz.prog:= .of1 Tb52 B52 (fun _=>true) zbn fun a0 _=>(zs2 a0).trans (zsz a0)
def Y34:TyE Tryz.prog:=⟨34,2,(.struct [(0,2,1),(1,2,1)]),[.i64 ⟨0,rfl⟩,.i64 ⟨0,rfl⟩],true,by kernel_rfl,by kernel_rfl,by kernel_rfl,by kernel_rfl,by kernel_rfl,by kernel_rfl⟩
def B80:Bod Tryz.prog:=⟨80,Tryz.f80,Tryz.f80.body.getD .skip,Tryz.func80,by kernel_rfl,by kernel_rfl,zav.no _ _⟩
def Tb80:Tb Tryz.prog:= {T:= [Y2,Y34],mix:=mix,Es:= [],Bs:= [],d:=1}
def zmI:Tr (Iv):=
 .leaf ⟨⟨(-1152921504606846976),rfl⟩,⟨1152921504606846976,rfl⟩⟩
theorem zwR:Tb80.run B80 [] (Iv)=(zmI).opt:=by kernel_rfl
def zL:Iv:=(zmI).get
theorem zwl:(zmI).opt=some (zL):=Tr.z8 (by kernel_rfl)
def zaA:Ent Tryz.prog:= .of0 Tb80 B80 zL (zwR.trans zwl)
def B184:Bod Tryz.prog:=⟨184,Tryz.f184,Tryz.f184.body.getD .skip,Tryz.func184,by kernel_rfl,by kernel_rfl,zav.no _ _⟩
def zJM:Tb Tryz.prog:= {T:= [],mix:=mix,Es:= [],Bs:= [],d:=1}
def zgc (a0:U64) (a1:U64):Tr (T2 U64 U64):=
 let c1:=(Rng.w .u64 (zbv .and .u64 a0.val 4294967295));let c2:=(Rng.w .u64 (a0.val.fdiv 4294967296));let c3:=(Rng.w .u64 (zbv .and .u64 a1.val 4294967295));let c4:=(Rng.w .u64 (a1.val.fdiv 4294967296));let c8:=(Rng.w .u64 ((Rng.w .u64 (c2.val*c3.val)).val+(Rng.w .u64 ((Rng.w .u64 (c1.val*c3.val)).val.fdiv 4294967296)).val));.leaf ⟨(Rng.w .u64 ((Rng.w .u64 ((Rng.w .u64 (c2.val*c4.val)).val+(Rng.w .u64 (c8.val.fdiv 4294967296)).val)).val+(Rng.w .u64 ((Rng.w .u64 ((Rng.w .u64 (zbv .and .u64 c8.val 4294967295)).val+(Rng.w .u64 (c1.val*c4.val)).val)).val.fdiv 4294967296)).val)),(Rng.w .u64 (a0.val*a1.val))⟩
theorem zpe (a0:U64) (a1:U64):zJM.run B184 [enc a0,enc a1] (T2 U64 U64)=(zgc a0 a1).opt:=by kernel_rfl
def zdF:U64->U64->T2 U64 U64:=fun a0 a1=>(zgc a0 a1).get
theorem zo1 (a0:U64) (a1:U64):(zgc a0 a1).opt=some (zdF a0 a1):=Tr.z8 (by kernel_rfl)
def zlw:Ent Tryz.prog:= .of2 zJM B184 (fun _ _=>true) zdF fun a0 a1 _=>(zpe a0 a1).trans (zo1 a0 a1)
def Y76:TyE Tryz.prog:=⟨76,1,(.int .u64),[.u64 ⟨0,rfl⟩],false,by kernel_rfl,by kernel_rfl,by kernel_rfl,by kernel_rfl,by kernel_rfl,by kernel_rfl⟩
def Y115:TyE Tryz.prog:=⟨115,2,(.struct [(0,2,1),(1,76,1)]),[.i64 ⟨0,rfl⟩,.u64 ⟨0,rfl⟩],true,by kernel_rfl,by kernel_rfl,by kernel_rfl,by kernel_rfl,by kernel_rfl,by kernel_rfl⟩
def B141:Bod Tryz.prog:=⟨141,Tryz.f141,Tryz.f141.body.getD .skip,Tryz.func141,by kernel_rfl,by kernel_rfl,zav.no _ _⟩
def zKd:Tb Tryz.prog:= {T:= [Y2,Y76,Y115],mix:=mix,Es:= [zlw],Bs:= [],d:=1}
def ziH (a0:I64) (a1:I64):Tr (Wide):=
 let c1:=zdF (Rng.w .u64 (a0.val)) (Rng.w .u64 (a1.val));.br (decide (a0.val<0)) (let c2:=(Rng.w .u64 (c1.a.val-(Rng.w .u64 (a1.val)).val));.br (decide (a1.val<0)) (.leaf ⟨(Rng.w .i64 ((Rng.w .u64 (c2.val-(Rng.w .u64 (a0.val)).val)).val)),c1.b⟩) (.leaf ⟨(Rng.w .i64 (c2.val)),c1.b⟩)) (.br (decide (a1.val<0)) (.leaf ⟨(Rng.w .i64 ((Rng.w .u64 (c1.a.val-(Rng.w .u64 (a0.val)).val)).val)),c1.b⟩) (.leaf ⟨(Rng.w .i64 (c1.a.val)),c1.b⟩))
theorem zti (a0:I64) (a1:I64):zKd.run B141 [enc a0,enc a1] (Wide)=(ziH a0 a1).opt:=by kernel_rfl
def zbV:I64->I64->Wide:=fun a0 a1=>(ziH a0 a1).get
theorem zsO (a0:I64) (a1:I64):(ziH a0 a1).opt=some (zbV a0 a1):=Tr.z8 (by kernel_rfl)
def zfv:Ent Tryz.prog:= .of2 zKd B141 (fun _ _=>true) zbV fun a0 a1 _=>(zti a0 a1).trans (zsO a0 a1)
def Y3:TyE Tryz.prog:=⟨3,1,(.int .i64),[.i64 ⟨0,rfl⟩],false,by kernel_rfl,by kernel_rfl,by kernel_rfl,by kernel_rfl,by kernel_rfl,by kernel_rfl⟩
def Y5:TyE Tryz.prog:=⟨5,1,(.int .u8),[.u8 ⟨0,rfl⟩],false,by kernel_rfl,by kernel_rfl,by kernel_rfl,by kernel_rfl,by kernel_rfl,by kernel_rfl⟩
def Y9:TyE Tryz.prog:=⟨9,1,.str,[.str ByteArray.empty],false,by kernel_rfl,by kernel_rfl,by kernel_rfl,by kernel_rfl,by kernel_rfl,by kernel_rfl⟩
def zhB (i:Nat):ByteArray:=(zl2 (Tryz.f222.body.getD .skip)).getD i ByteArray.empty
def B222:Bod Tryz.prog:=⟨222,Tryz.f222,Tryz.f222.body.getD .skip,Tryz.func222,by kernel_rfl,by kernel_rfl,zav.no _ _⟩
def zJw:Tb Tryz.prog:= {T:= [Y3,Y5,Y9,Y76],mix:=mix,Es:= [],Bs:= [],d:=1}
def zew (a0:U64):Tr (I64):=
 .br (decide (a0.val>=4294967296)) (let c2:=(Rng.w .u64 (a0.val.fdiv 4294967296));.br (decide (c2.val>=65536)) (let c4:=(Rng.w .u64 (c2.val.fdiv 65536));.br (decide (c4.val>=256)) (let c5:=(Rng.w .u64 (c4.val.fdiv 256));.br (Nat.blt ((Rng.w .u8 (c5.val)).val.toNat) (zhB 0).size) (.leaf (Rng.w .i64 (56+(Rng.w .i64 ((zjV (zhB 0) ((Rng.w .u8 (c5.val)).val.toNat)).val)).val))) (.bad)) (.br (Nat.blt ((Rng.w .u8 (c4.val)).val.toNat) (zhB 0).size) (.leaf (Rng.w .i64 (48+(Rng.w .i64 ((zjV (zhB 0) ((Rng.w .u8 (c4.val)).val.toNat)).val)).val))) (.bad))) (.br (decide (c2.val>=256)) (let c10:=(Rng.w .u64 (c2.val.fdiv 256));.br (Nat.blt ((Rng.w .u8 (c10.val)).val.toNat) (zhB 0).size) (.leaf (Rng.w .i64 (40+(Rng.w .i64 ((zjV (zhB 0) ((Rng.w .u8 (c10.val)).val.toNat)).val)).val))) (.bad)) (.br (Nat.blt ((Rng.w .u8 (c2.val)).val.toNat) (zhB 0).size) (.leaf (Rng.w .i64 (32+(Rng.w .i64 ((zjV (zhB 0) ((Rng.w .u8 (c2.val)).val.toNat)).val)).val))) (.bad)))) (.br (decide (a0.val>=65536)) (let c16:=(Rng.w .u64 (a0.val.fdiv 65536));.br (decide (c16.val>=256)) (let c17:=(Rng.w .u64 (c16.val.fdiv 256));.br (Nat.blt ((Rng.w .u8 (c17.val)).val.toNat) (zhB 0).size) (.leaf (Rng.w .i64 (24+(Rng.w .i64 ((zjV (zhB 0) ((Rng.w .u8 (c17.val)).val.toNat)).val)).val))) (.bad)) (.br (Nat.blt ((Rng.w .u8 (c16.val)).val.toNat) (zhB 0).size) (.leaf (Rng.w .i64 (16+(Rng.w .i64 ((zjV (zhB 0) ((Rng.w .u8 (c16.val)).val.toNat)).val)).val))) (.bad))) (.br (decide (a0.val>=256)) (let c22:=(Rng.w .u64 (a0.val.fdiv 256));.br (Nat.blt ((Rng.w .u8 (c22.val)).val.toNat) (zhB 0).size) (.leaf (Rng.w .i64 (8+(Rng.w .i64 ((zjV (zhB 0) ((Rng.w .u8 (c22.val)).val.toNat)).val)).val))) (.bad)) (.br (Nat.blt ((Rng.w .u8 (a0.val)).val.toNat) (zhB 0).size) (.leaf (Rng.w .i64 (0+(Rng.w .i64 ((zjV (zhB 0) ((Rng.w .u8 (a0.val)).val.toNat)).val)).val))) (.bad))))
theorem zpf (a0:U64):zJw.run B222 [enc a0] (I64)=(zew a0).opt:=by kernel_rfl
def zio:U64->I64:=fun a0=>(zew a0).get
def zgk:U64->Bool:=fun a0=>(zew a0).opt.isSome
def zpN:Ent Tryz.prog:= .of1 zJw B222 zgk zio fun a0 h=>(zpf a0).trans (Tr.get_some h)
def B226:Bod Tryz.prog:=⟨226,Tryz.f226,Tryz.f226.body.getD .skip,Tryz.func226,by kernel_rfl,by kernel_rfl,zav.no _ _⟩
def zJv:Tb Tryz.prog:= {T:= [],mix:=mix,Es:= [zpN],Bs:= [],d:=1}
def zb1 (a0:U64):Tr (I64):=
 .br (zgk a0) (.leaf (Rng.w .i64 (64-(zio a0).val))) (.bad)
theorem zkq (a0:U64):zJv.run B226 [enc a0] (I64)=(zb1 a0).opt:=by kernel_rfl
def zdU:U64->I64:=fun a0=>(zb1 a0).get
def zcI:U64->Bool:=fun a0=>(zb1 a0).opt.isSome
def zkr:Ent Tryz.prog:= .of1 zJv B226 zcI zdU fun a0 h=>(zkq a0).trans (Tr.get_some h)
structure zaY where
 x0:U64
 x1:U64
 x2:U64
 x3:U64
 x4:U64
 x5:U64
 x6:U64
 x7:U64
 x8:U64
instance:Inhabited zaY:=⟨⟨default,default,default,default,default,default,default,default,default⟩⟩
def zi1 (x:zaY):St:=⟨[(2,.u64 x.x0),(8,.u64 x.x1),(9,.u64 x.x2),(10,.u64 x.x3),(11,.u64 x.x4),(13,.u64 x.x5),(14,.u64 x.x6),(15,.u64 x.x7),(16,.u64 x.x8)],135,⟨[],0,0⟩⟩
def zi3:St->Option zaY:=fun s=>match s with
 | ⟨[(2,.u64 x0),(8,.u64 x1),(9,.u64 x2),(10,.u64 x3),(11,.u64 x4),(13,.u64 x5),(14,.u64 x6),(15,.u64 x7),(16,.u64 x8)],135,⟨[],0,0⟩⟩=>some ⟨x0,x1,x2,x3,x4,x5,x6,x7,x8⟩
 | _=>none
def zaW (x:zaY):Tr (Lp zaY):=
 .br (decide (x.x7.val>=4294967296)) (let c19:=(Rng.w .u64 (x.x7.val-1));let c20:=(Rng.w .u64 (x.x8.val+x.x2.val));.br (decide (c20.val>=4294967296)) (.leaf (.out ⟨x.x0,x.x1,x.x2,x.x3,x.x4,x.x5,x.x6,c19,c20⟩)) (.leaf (.again ⟨x.x0,x.x1,x.x2,x.x3,x.x4,x.x5,x.x6,c19,c20⟩))) (.br (decide ((Rng.w .u64 (x.x7.val*x.x3.val)).val>(Rng.w .u64 ((Rng.w .u64 (4294967296*x.x8.val)).val+x.x5.val)).val)) (let c26:=(Rng.w .u64 (x.x7.val-1));let c27:=(Rng.w .u64 (x.x8.val+x.x2.val));.br (decide (c27.val>=4294967296)) (.leaf (.out ⟨x.x0,x.x1,x.x2,x.x3,x.x4,x.x5,x.x6,c26,c27⟩)) (.leaf (.again ⟨x.x0,x.x1,x.x2,x.x3,x.x4,x.x5,x.x6,c26,c27⟩))) (.leaf (.out ⟨x.x0,x.x1,x.x2,x.x3,x.x4,x.x5,x.x6,x.x7,x.x8⟩)))
def zet (x:zaY):Bool:=(Lf zaW 4 x).opt.isSome
def zgC (x:zaY):zaY:=(Lf zaW 4 x).get
def zmx:Tb Tryz.prog:= {T:= [],mix:=mix,Es:= [],Bs:= [],d:=1}
def zgA:LpF:=zvA [2,8,9,10,11,13,14,15,16] [] 0 zi3 zi1 (.exit 0) zet zgC
theorem zmu:zlt Tryz.prog (zox (Tryz.f215.body.getD .skip) 0) zgA:=zlV (t:=zmx) (lt:=fun _=>none) (body:=zaW) (n:=4) (by intro h;cases h) (fun _ _ _ h=>by cases h)
 (by intro s x h;unfold zi3 at h;split at h<;>cases h;rfl) (fun x b cs h=>zxp (l:=(zi1 x).mm.blks) (by kernel_rfl) h) (by intro x;kernel_rfl) (fun x h=>Tr.get_some h)
structure zaX where
 x0:U64
 x1:U64
 x2:U64
 x3:U64
 x4:U64
 x5:U64
 x6:U64
 x7:U64
 x8:U64
instance:Inhabited zaX:=⟨⟨default,default,default,default,default,default,default,default,default⟩⟩
def zi0 (x:zaX):St:=⟨[(2,.u64 x.x0),(8,.u64 x.x1),(9,.u64 x.x2),(10,.u64 x.x3),(14,.u64 x.x4),(15,.u64 x.x5),(16,.u64 x.x6),(17,.u64 x.x7),(18,.u64 x.x8)],135,⟨[],0,0⟩⟩
def zi2:St->Option zaX:=fun s=>match s with
 | ⟨[(2,.u64 x0),(8,.u64 x1),(9,.u64 x2),(10,.u64 x3),(14,.u64 x4),(15,.u64 x5),(16,.u64 x6),(17,.u64 x7),(18,.u64 x8)],135,⟨[],0,0⟩⟩=>some ⟨x0,x1,x2,x3,x4,x5,x6,x7,x8⟩
 | _=>none
def zaV (x:zaX):Tr (Lp zaX):=
 .br (decide (x.x8.val>=4294967296)) (let c38:=(Rng.w .u64 (x.x8.val-1));let c39:=(Rng.w .u64 (x.x6.val+x.x2.val));.br (decide (c39.val>=4294967296)) (.leaf (.out ⟨x.x0,x.x1,x.x2,x.x3,x.x4,x.x5,c39,x.x7,c38⟩)) (.leaf (.again ⟨x.x0,x.x1,x.x2,x.x3,x.x4,x.x5,c39,x.x7,c38⟩))) (.br (decide ((Rng.w .u64 (x.x8.val*x.x3.val)).val>(Rng.w .u64 ((Rng.w .u64 (4294967296*x.x6.val)).val+x.x4.val)).val)) (let c45:=(Rng.w .u64 (x.x8.val-1));let c46:=(Rng.w .u64 (x.x6.val+x.x2.val));.br (decide (c46.val>=4294967296)) (.leaf (.out ⟨x.x0,x.x1,x.x2,x.x3,x.x4,x.x5,c46,x.x7,c45⟩)) (.leaf (.again ⟨x.x0,x.x1,x.x2,x.x3,x.x4,x.x5,c46,x.x7,c45⟩))) (.leaf (.out ⟨x.x0,x.x1,x.x2,x.x3,x.x4,x.x5,x.x6,x.x7,x.x8⟩)))
def zes (x:zaX):Bool:=(Lf zaV 4 x).opt.isSome
def zgB (x:zaX):zaX:=(Lf zaV 4 x).get
def zmw:Tb Tryz.prog:= {T:= [],mix:=mix,Es:= [],Bs:= [],d:=1}
def zgz:LpF:=zvA [2,8,9,10,14,15,16,17,18] [] 0 zi2 zi0 (.exit 2) zes zgB
theorem zmt:zlt Tryz.prog (zox (Tryz.f215.body.getD .skip) 1) zgz:=zlV (t:=zmw) (lt:=fun _=>none) (body:=zaV) (n:=4) (by intro h;cases h) (fun _ _ _ h=>by cases h)
 (by intro s x h;unfold zi2 at h;split at h<;>cases h;rfl) (fun x b cs h=>zxp (l:=(zi0 x).mm.blks) (by kernel_rfl) h) (by intro x;kernel_rfl) (fun x h=>Tr.get_some h)
def Y102:TyE Tryz.prog:=⟨102,1,(.int .u64),[.u64 ⟨0,rfl⟩],false,by kernel_rfl,by kernel_rfl,by kernel_rfl,by kernel_rfl,by kernel_rfl,by kernel_rfl⟩
def B215:Bod Tryz.prog:=⟨215,Tryz.f215,Tryz.f215.body.getD .skip,Tryz.func215,by kernel_rfl,by kernel_rfl,⟨ltOf [(17,zgA),(24,zgz)],zav.of (ks:= [17,24]) (by kernel_rfl) (by
 intro i k h f hf
 match i,h with
 | 0,h=>cases h;obtain rfl:zgA=f:=Option.some.inj hf;exact zmu
 | 1,h=>cases h;obtain rfl:zgz=f:=Option.some.inj hf;exact zmt
 | n+2,h=>simp at h)⟩⟩
def zJy:Tb Tryz.prog:= {T:= [Y3,Y102],mix:=mix,Es:= [zkr],Bs:= [],d:=1}
def zdB (a0:U64) (a1:U64) (a2:U64):Tr (T2 U64 U64):=
 .br (a2.val==0) (.bad) (.br (decide (a2.val<=a0.val)) (.bad) (.br (a0.val==0) (.br (a2.val==0) (.bad) (.br (a2.val==0) (.bad) (.leaf ⟨(Rng.w .u64 (a1.val.tdiv a2.val)),(Rng.w .u64 (a1.val.tmod a2.val))⟩))) (.br (zcI a2) (let c4:=zdU a2;let c5:=(Rng.w .u64 (a2.val*(2^min ((Rng.w .u64 (c4.val)).val).toNat 64)));let c6:=(Rng.w .u64 (c5.val.fdiv 4294967296));let c7:=(Rng.w .u64 (zbv .and .u64 c5.val 4294967295));let c11:=(Rng.w .u64 (zbv .or .u64 (Rng.w .u64 (a0.val*(2^min ((Rng.w .u64 (c4.val)).val).toNat 64))).val (Rng.w .u64 (a1.val.fdiv (2^min ((Rng.w .u64 (64-(Rng.w .u64 (c4.val)).val)).val).toNat 64))).val));let c12:=(Rng.w .u64 (a1.val*(2^min ((Rng.w .u64 (c4.val)).val).toNat 64)));let c13:=(Rng.w .u64 (c12.val.fdiv 4294967296));let c14:=(Rng.w .u64 (zbv .and .u64 c12.val 4294967295));.br (c6.val==0) (.bad) (let c15:=(Rng.w .u64 (c11.val.tdiv c6.val));let c17:=(Rng.w .u64 (c11.val-(Rng.w .u64 (c15.val*c6.val)).val));.br (zet ⟨c5,(Rng.w .u64 (c4.val)),c6,c7,c11,c13,c14,c15,c17⟩) (let c29:=zgC ⟨c5,(Rng.w .u64 (c4.val)),c6,c7,c11,c13,c14,c15,c17⟩;let c33:=(Rng.w .u64 ((Rng.w .u64 ((Rng.w .u64 (c29.x4.val*4294967296)).val+c29.x5.val)).val-(Rng.w .u64 (c29.x7.val*c29.x0.val)).val));.br (c29.x2.val==0) (.bad) (let c34:=(Rng.w .u64 (c33.val.tdiv c29.x2.val));let c36:=(Rng.w .u64 (c33.val-(Rng.w .u64 (c34.val*c29.x2.val)).val));.br (zes ⟨c29.x0,c29.x1,c29.x2,c29.x3,c29.x6,c29.x7,c36,c33,c34⟩) (let c48:=zgB ⟨c29.x0,c29.x1,c29.x2,c29.x3,c29.x6,c29.x7,c36,c33,c34⟩;.leaf ⟨(Rng.w .u64 ((Rng.w .u64 (c48.x5.val*4294967296)).val+c48.x8.val)),(Rng.w .u64 ((Rng.w .u64 ((Rng.w .u64 ((Rng.w .u64 (c48.x7.val*4294967296)).val+c48.x4.val)).val-(Rng.w .u64 (c48.x8.val*c48.x0.val)).val)).val.fdiv (2^min (c48.x1.val).toNat 64)))⟩) (.bad))) (.bad))) (.bad))))
theorem zpg (a0:U64) (a1:U64) (a2:U64):zJy.run B215 [enc a0,enc a1,enc a2] (T2 U64 U64)=(zdB a0 a1 a2).opt:=by kernel_rfl
def ziq:U64->U64->U64->T2 U64 U64:=fun a0 a1 a2=>(zdB a0 a1 a2).get
def zgl:U64->U64->U64->Bool:=fun a0 a1 a2=>(zdB a0 a1 a2).opt.isSome
def zpO:Ent Tryz.prog:= .of3 zJy B215 zgl ziq fun a0 a1 a2 h=>(zpg a0 a1 a2).trans (Tr.get_some h)
def B181:Bod Tryz.prog:=⟨181,Tryz.f181,Tryz.f181.body.getD .skip,Tryz.func181,by kernel_rfl,by kernel_rfl,zav.no _ _⟩
def zJO:Tb Tryz.prog:= {T:= [],mix:=mix,Es:= [zpO],Bs:= [],d:=1}
def zgK (a0:U64) (a1:U64) (a2:U64):Tr (T3 U64 U64 U64):=
 .br (a2.val==0) (.bad) (.br (a2.val==0) (.bad) (let c2:=(Rng.w .u64 (a0.val.tmod a2.val));.br (zgl c2 a1 a2) (let c3:=ziq c2 a1 a2;.leaf ⟨(Rng.w .u64 (a0.val.tdiv a2.val)),c3.a,c3.b⟩) (.bad)))
theorem ztf (a0:U64) (a1:U64) (a2:U64):zJO.run B181 [enc a0,enc a1,enc a2] (T3 U64 U64 U64)=(zgK a0 a1 a2).opt:=by kernel_rfl
def ziT:U64->U64->U64->T3 U64 U64 U64:=fun a0 a1 a2=>(zgK a0 a1 a2).get
def zgQ:U64->U64->U64->Bool:=fun a0 a1 a2=>(zgK a0 a1 a2).opt.isSome
def ztL:Ent Tryz.prog:= .of3 zJO B181 zgQ ziT fun a0 a1 a2 h=>(ztf a0 a1 a2).trans (Tr.get_some h)
def B182:Bod Tryz.prog:=⟨182,Tryz.f182,Tryz.f182.body.getD .skip,Tryz.func182,by kernel_rfl,by kernel_rfl,zav.no _ _⟩
def zJN:Tb Tryz.prog:= {T:= [Y2,Y76,Y115],mix:=mix,Es:= [zpM],Bs:= [],d:=1}
def zdh (a0:Wide):Tr (Wide):=
 let c1:=zeK ⟨0,rfl⟩ a0.lo ⟨0,rfl⟩;.br (zpK ⟨0,rfl⟩ (Rng.w .u64 (a0.hi.val)) c1.b) (.leaf ⟨(Rng.w .i64 ((zeK ⟨0,rfl⟩ (Rng.w .u64 (a0.hi.val)) c1.b).a.val)),c1.a⟩) (.bad)
theorem znm (a0:Wide):zJN.run B182 [enc a0] (Wide)=(zdh a0).opt:=by kernel_rfl
def zdj:Wide->Wide:=fun a0=>(zdh a0).get
def zcF:Wide->Bool:=fun a0=>(zdh a0).opt.isSome
def znr:Ent Tryz.prog:= .of1 zJN B182 zcF zdj fun a0 h=>(znm a0).trans (Tr.get_some h)
def B140:Bod Tryz.prog:=⟨140,Tryz.f140,Tryz.f140.body.getD .skip,Tryz.func140,by kernel_rfl,by kernel_rfl,zav.no _ _⟩
def zKe:Tb Tryz.prog:= {T:= [Y2,Y76,Y115],mix:=mix,Es:= [ztL,znr,zpP],Bs:= [],d:=1}
def zek (a0:Wide) (a1:I64):Tr (T3 Wide I64 Bool):=
 .br (decide (a1.val<=0)) (.leaf ⟨⟨⟨0,rfl⟩,⟨0,rfl⟩⟩,⟨0,rfl⟩,false⟩) (.br (decide (a0.hi.val>=0)) (.br (zgQ (Rng.w .u64 (a0.hi.val)) a0.lo (Rng.w .u64 (a1.val))) (let c1:=ziT (Rng.w .u64 (a0.hi.val)) a0.lo (Rng.w .u64 (a1.val));.leaf ⟨⟨(Rng.w .i64 (c1.a.val)),c1.b⟩,(Rng.w .i64 (c1.c.val)),true⟩) (.bad)) (.br (zcF a0) (let c2:=zdj a0;.br (zgQ (Rng.w .u64 (c2.hi.val)) c2.lo (Rng.w .u64 (a1.val))) (let c3:=ziT (Rng.w .u64 (c2.hi.val)) c2.lo (Rng.w .u64 (a1.val));.br (c3.c.val==0) (.br (zcF ⟨(Rng.w .i64 (c3.a.val)),c3.b⟩) (.leaf ⟨(zdj ⟨(Rng.w .i64 (c3.a.val)),c3.b⟩),⟨0,rfl⟩,true⟩) (.bad)) (let c5:=zdG c3.b ⟨1,rfl⟩ ⟨0,rfl⟩;let c6:=(Rng.w .u64 (c3.a.val+c5.b.val));.br (zcF ⟨(Rng.w .i64 (c6.val)),c5.a⟩) (.leaf ⟨(zdj ⟨(Rng.w .i64 (c6.val)),c5.a⟩),(Rng.w .i64 (a1.val-(Rng.w .i64 (c3.c.val)).val)),true⟩) (.bad))) (.bad)) (.bad)))
theorem ztk (a0:Wide) (a1:I64):zKe.run B140 [enc a0,enc a1] (T3 Wide I64 Bool)=(zek a0 a1).opt:=by kernel_rfl
def zfu:Wide->I64->T3 Wide I64 Bool:=fun a0 a1=>(zek a0 a1).get
def zcR:Wide->I64->Bool:=fun a0 a1=>(zek a0 a1).opt.isSome
def znB:Ent Tryz.prog:= .of2 zKe B140 zcR zfu fun a0 a1 h=>(ztk a0 a1).trans (Tr.get_some h)
def B185:Bod Tryz.prog:=⟨185,Tryz.f185,Tryz.f185.body.getD .skip,Tryz.func185,by kernel_rfl,by kernel_rfl,zav.no _ _⟩
def zJL:Tb Tryz.prog:= {T:= [Y2,Y76,Y115],mix:=mix,Es:= [],Bs:= [],d:=1}
def zjB (a0:I64):Tr (Wide):=
 .leaf ⟨(Rng.w .i64 (a0.val.fdiv 9223372036854775808)),(Rng.w .u64 (a0.val))⟩
theorem zvo (a0:I64):zJL.run B185 [enc a0] (Wide)=(zjB a0).opt:=by kernel_rfl
def zgr:I64->Wide:=fun a0=>(zjB a0).get
theorem zuS (a0:I64):(zjB a0).opt=some (zgr a0):=Tr.z8 (by kernel_rfl)
def zv5:Ent Tryz.prog:= .of1 zJL B185 (fun _=>true) zgr fun a0 _=>(zvo a0).trans (zuS a0)
def B142:Bod Tryz.prog:=⟨142,Tryz.f142,Tryz.f142.body.getD .skip,Tryz.func142,by kernel_rfl,by kernel_rfl,zav.no _ _⟩
def zKc:Tb Tryz.prog:= {T:= [Y2,Y76,Y115],mix:=mix,Es:= [zv5],Bs:= [],d:=1}
def zk1 (a0:Wide):Tr (T2 I64 Bool):=
 let c1:=zgr (Rng.w .i64 (a0.lo.val));.br (!((c1.hi.val==a0.hi.val)&&((c1.lo.val==a0.lo.val)&&true))) (.leaf ⟨⟨0,rfl⟩,false⟩) (.leaf ⟨(Rng.w .i64 (a0.lo.val)),true⟩)
theorem ztj (a0:Wide):zKc.run B142 [enc a0] (T2 I64 Bool)=(zk1 a0).opt:=by kernel_rfl
def zft:Wide->T2 I64 Bool:=fun a0=>(zk1 a0).get
theorem zsP (a0:Wide):(zk1 a0).opt=some (zft a0):=Tr.z8 (by kernel_rfl)
def zld:Ent Tryz.prog:= .of1 zKc B142 (fun _=>true) zft fun a0 _=>(ztj a0).trans (zsP a0)
def B84:Bod Tryz.prog:=⟨84,Tryz.f84,Tryz.f84.body.getD .skip,Tryz.func84,by kernel_rfl,by kernel_rfl,zav.no _ _⟩
def Tb84:Tb Tryz.prog:= {T:= [Y2,Y76,Y115],mix:=mix,Es:= [znB,zfv,zld],Bs:= [],d:=1}
def zcz (a0:I64) (a1:I64) (a2:I64):Tr (T2 I64 Bool):=
 let c1:=zbV a0 a1;.br (zcR c1 a2) (let c2:=zfu c1 a2;.br (!c2.c) (.leaf ⟨⟨0,rfl⟩,false⟩) (let c3:=zft c2.a;.leaf ⟨c3.a,c3.b⟩)) (.bad)
theorem zkQ (a0:I64) (a1:I64) (a2:I64):Tb84.run B84 [enc a0,enc a1,enc a2] (T2 I64 Bool)=(zcz a0 a1 a2).opt:=by kernel_rfl
def zbm:I64->I64->I64->T2 I64 Bool:=fun a0 a1 a2=>(zcz a0 a1 a2).get
def zb6:I64->I64->I64->Bool:=fun a0 a1 a2=>(zcz a0 a1 a2).opt.isSome
def zh9:Ent Tryz.prog:= .of3 Tb84 B84 zb6 zbm fun a0 a1 a2 h=>(zkQ a0 a1 a2).trans (Tr.get_some h)
def B144:Bod Tryz.prog:=⟨144,Tryz.f144,Tryz.f144.body.getD .skip,Tryz.func144,by kernel_rfl,by kernel_rfl,zav.no _ _⟩
def zKa:Tb Tryz.prog:= {T:= [],mix:=mix,Es:= [za1],Bs:= [],d:=1}
def zfO (a0:I64):Tr (Bool):=
 .leaf (zaw a0 ⟨(-1152921504606846976),rfl⟩ ⟨1152921504606846976,rfl⟩)
theorem zrt (a0:I64):zKa.run B144 [enc a0] (Bool)=(zfO a0).opt:=by kernel_rfl
def zaO:I64->Bool:=fun a0=>(zfO a0).get
theorem zq3 (a0:I64):(zfO a0).opt=some (zaO a0):=Tr.z8 (by kernel_rfl)
def zc7:Ent Tryz.prog:= .of1 zKa B144 (fun _=>true) zaO fun a0 _=>(zrt a0).trans (zq3 a0)
def B145:Bod Tryz.prog:=⟨145,Tryz.f145,Tryz.f145.body.getD .skip,Tryz.func145,by kernel_rfl,by kernel_rfl,zav.no _ _⟩
def zJ9:Tb Tryz.prog:= {T:= [],mix:=mix,Es:= [zc7],Bs:= [],d:=1}
def zkB (a0:I64) (a1:Bool):Tr (T2 I64 Bool):=
 .br (!a1) (.leaf ⟨⟨0,rfl⟩,false⟩) (.br (!(zaO a0)) (.leaf ⟨⟨0,rfl⟩,false⟩) (.leaf ⟨a0,true⟩))
theorem zwQ (a0:I64) (a1:Bool):zJ9.run B145 [enc a0,enc a1] (T2 I64 Bool)=(zkB a0 a1).opt:=by kernel_rfl
def zcu:I64->Bool->T2 I64 Bool:=fun a0 a1=>(zkB a0 a1).get
theorem zwk (a0:I64) (a1:Bool):(zkB a0 a1).opt=some (zcu a0 a1):=Tr.z8 (by kernel_rfl)
def zhz:Ent Tryz.prog:= .of2 zJ9 B145 (fun _ _=>true) zcu fun a0 a1 _=>(zwQ a0 a1).trans (zwk a0 a1)
def B92:Bod Tryz.prog:=⟨92,Tryz.f92,Tryz.f92.body.getD .skip,Tryz.func92,by kernel_rfl,by kernel_rfl,zav.no _ _⟩
def Tb92:Tb Tryz.prog:= {T:= [],mix:=mix,Es:= [zh9,zhz],Bs:= [],d:=1}
def zfQ (a0:I64) (a1:I64):Tr (T2 I64 Bool):=
 .br (zb6 a0 ⟨4294967296,rfl⟩ a1) (let c1:=zbm a0 ⟨4294967296,rfl⟩ a1;let c2:=zcu c1.a c1.b;.leaf ⟨c2.a,c2.b⟩) (.bad)
theorem zrx (a0:I64) (a1:I64):Tb92.run B92 [enc a0,enc a1] (T2 I64 Bool)=(zfQ a0 a1).opt:=by kernel_rfl
def zh6:I64->I64->T2 I64 Bool:=fun a0 a1=>(zfQ a0 a1).get
def zf1:I64->I64->Bool:=fun a0 a1=>(zfQ a0 a1).opt.isSome
def zsq:Ent Tryz.prog:= .of2 Tb92 B92 zf1 zh6 fun a0 a1 h=>(zrx a0 a1).trans (Tr.get_some h)
def B147:Bod Tryz.prog:=⟨147,Tryz.f147,Tryz.f147.body.getD .skip,Tryz.func147,by kernel_rfl,by kernel_rfl,zav.no _ _⟩
def zJ8:Tb Tryz.prog:= {T:= [Y2,Y76,Y115],mix:=mix,Es:= [znB,zfv,zld],Bs:= [],d:=1}
def zcL (a0:I64) (a1:I64) (a2:I64):Tr (T2 I64 Bool):=
 let c1:=zbV a0 a1;.br (zcR c1 a2) (let c2:=zfu c1 a2;.br (!c2.c) (.leaf ⟨⟨0,rfl⟩,false⟩) (let c3:=zft c2.a;.br (!c3.b) (.leaf ⟨⟨0,rfl⟩,false⟩) (.br (decide (c2.b.val>0)) (.br (c3.a.val==9223372036854775807) (.leaf ⟨⟨0,rfl⟩,false⟩) (.br (decide (c2.b.val>0)) (.leaf ⟨(Rng.w .i64 (c3.a.val+1)),true⟩) (.leaf ⟨c3.a,true⟩))) (.br (decide (c2.b.val>0)) (.leaf ⟨(Rng.w .i64 (c3.a.val+1)),true⟩) (.leaf ⟨c3.a,true⟩))))) (.bad)
theorem zph (a0:I64) (a1:I64) (a2:I64):zJ8.run B147 [enc a0,enc a1,enc a2] (T2 I64 Bool)=(zcL a0 a1 a2).opt:=by kernel_rfl
def zgp:I64->I64->I64->T2 I64 Bool:=fun a0 a1 a2=>(zcL a0 a1 a2).get
def zdE:I64->I64->I64->Bool:=fun a0 a1 a2=>(zcL a0 a1 a2).opt.isSome
def zpQ:Ent Tryz.prog:= .of3 zJ8 B147 zdE zgp fun a0 a1 a2 h=>(zph a0 a1 a2).trans (Tr.get_some h)
def B93:Bod Tryz.prog:=⟨93,Tryz.f93,Tryz.f93.body.getD .skip,Tryz.func93,by kernel_rfl,by kernel_rfl,zav.no _ _⟩
def Tb93:Tb Tryz.prog:= {T:= [],mix:=mix,Es:= [zhz,zpQ],Bs:= [],d:=1}
def zfn (a0:I64) (a1:I64):Tr (T2 I64 Bool):=
 .br (zdE a0 ⟨4294967296,rfl⟩ a1) (let c1:=zgp a0 ⟨4294967296,rfl⟩ a1;let c2:=zcu c1.a c1.b;.leaf ⟨c2.a,c2.b⟩) (.bad)
theorem ztt (a0:I64) (a1:I64):Tb93.run B93 [enc a0,enc a1] (T2 I64 Bool)=(zfn a0 a1).opt:=by kernel_rfl
def ziU:I64->I64->T2 I64 Bool:=fun a0 a1=>(zfn a0 a1).get
def zgR:I64->I64->Bool:=fun a0 a1=>(zfn a0 a1).opt.isSome
def ztQ:Ent Tryz.prog:= .of2 Tb93 B93 zgR ziU fun a0 a1 h=>(ztt a0 a1).trans (Tr.get_some h)
def B143:Bod Tryz.prog:=⟨143,Tryz.f143,Tryz.f143.body.getD .skip,Tryz.func143,by kernel_rfl,by kernel_rfl,zav.no _ _⟩
def zKb:Tb Tryz.prog:= {T:= [Y2,Y34],mix:=mix,Es:= [],Bs:= [],d:=1}
def zgy (a0:Iv):Tr (Bool):=
 .br (decide ((-1152921504606846976)<a0.lo.val)) (.br (decide (a0.lo.val<=a0.hi.val)) (.leaf (decide (a0.hi.val<1152921504606846976))) (.leaf false)) (.leaf false)
theorem znn (a0:Iv):zKb.run B143 [enc a0] (Bool)=(zgy a0).opt:=by kernel_rfl
def zbs:Iv->Bool:=fun a0=>(zgy a0).get
theorem znk (a0:Iv):(zgy a0).opt=some (zbs a0):=Tr.z8 (by kernel_rfl)
def zdk:Ent Tryz.prog:= .of1 zKb B143 (fun _=>true) zbs fun a0 _=>(znn a0).trans (znk a0)
def B94:Bod Tryz.prog:=⟨94,Tryz.f94,Tryz.f94.body.getD .skip,Tryz.func94,by kernel_rfl,by kernel_rfl,zav.no _ _⟩
def Tb94:Tb Tryz.prog:= {T:= [Y2,Y34],mix:=mix,Es:= [zaA,zdk],Bs:= [],d:=1}
def ziF (a0:I64) (a1:I64) (a2:Bool):Tr (Iv):=
 .br a2 (.br (zbs ⟨a0,a1⟩) (.leaf ⟨a0,a1⟩) (.leaf zL)) (.leaf zL)
theorem ztg (a0:I64) (a1:I64) (a2:Bool):Tb94.run B94 [enc a0,enc a1,enc a2] (Iv)=(ziF a0 a1 a2).opt:=by kernel_rfl
def zaR:I64->I64->Bool->Iv:=fun a0 a1 a2=>(ziF a0 a1 a2).get
theorem zsM (a0:I64) (a1:I64) (a2:Bool):(ziF a0 a1 a2).opt=some (zaR a0 a1 a2):=Tr.z8 (by kernel_rfl)
def zcg:Ent Tryz.prog:= .of3 Tb94 B94 (fun _ _ _=>true) zaR fun a0 a1 a2 _=>(ztg a0 a1 a2).trans (zsM a0 a1 a2)
def B39:Bod Tryz.prog:=⟨39,Tryz.f39,Tryz.f39.body.getD .skip,Tryz.func39,by kernel_rfl,by kernel_rfl,zav.no _ _⟩
def Tb39:Tb Tryz.prog:= {T:= [Y2,Y34],mix:=mix,Es:= [zaA,zsq,ztQ,zcg],Bs:= [],d:=1}
def zfP (a0:I64) (a1:I64):Tr (Iv):=
 .br (decide (a1.val<0)) (let c1:=(Rng.w .i64 (0-a0.val));let c2:=(Rng.w .i64 (0-a1.val));.br (decide (c2.val<0)) (.leaf zL) (.br (c1.val==(-9223372036854775808)) (.leaf zL) (.br (zf1 c1 c2) (let c6:=zh6 c1 c2;.br (zgR c1 c2) (let c7:=ziU c1 c2;.br c6.b (.leaf (zaR c6.a c7.a c7.b)) (.leaf (zaR c6.a c7.a false))) (.bad)) (.bad)))) (.br (zf1 a0 a1) (let c10:=zh6 a0 a1;.br (zgR a0 a1) (let c11:=ziU a0 a1;.br c10.b (.leaf (zaR c10.a c11.a c11.b)) (.leaf (zaR c10.a c11.a false))) (.bad)) (.bad))
theorem zrv (a0:I64) (a1:I64):Tb39.run B39 [enc a0,enc a1] (Iv)=(zfP a0 a1).opt:=by kernel_rfl
def zaj:I64->I64->Iv:=fun a0 a1=>(zfP a0 a1).get
def B55:Bod Tryz.prog:=⟨55,Tryz.f55,Tryz.f55.body.getD .skip,Tryz.func55,by kernel_rfl,by kernel_rfl,zav.no _ _⟩
def Tb55:Tb Tryz.prog:= {T:= [Y2,Y34],mix:=mix,Es:= [],Bs:= [],d:=1}
def zjP:Tr (Iv):=
 .leaf ⟨⟨(-1152921504606846976),rfl⟩,⟨1152921504606846976,rfl⟩⟩
theorem zrk:Tb55.run B55 [] (Iv)=(zjP).opt:=by kernel_rfl
def zt:Iv:=(zjP).get
theorem zqV:(zjP).opt=some (zt):=Tr.z8 (by kernel_rfl)
def zeM:Ent Tryz.prog:= .of0 Tb55 B55 zt (zrk.trans zqV)
def B124:Bod Tryz.prog:=⟨124,Tryz.f124,Tryz.f124.body.getD .skip,Tryz.func124,by kernel_rfl,by kernel_rfl,zav.no _ _⟩
def zKk:Tb Tryz.prog:= {T:= [Y2,Y34],mix:=mix,Es:= [zeM],Bs:= [],d:=1}
def zmC:Tr (Iv):=
 .leaf zt
theorem zwN:zKk.run B124 [] (Iv)=(zmC).opt:=by kernel_rfl
def zbe:Iv:=(zmC).get
theorem zwh:(zmC).opt=some (zbe):=Tr.z8 (by kernel_rfl)
def zm2:Ent Tryz.prog:= .of0 zKk B124 zbe (zwN.trans zwh)
def B54:Bod Tryz.prog:=⟨54,Tryz.f54,Tryz.f54.body.getD .skip,Tryz.func54,by kernel_rfl,by kernel_rfl,zav.no _ _⟩
def Tb54:Tb Tryz.prog:= {T:= [Y2,Y34],mix:=mix,Es:= [],Bs:= [],d:=1}
def zhl (a0:Iv):Tr (Bool):=
 .br (decide ((-1152921504606846976)<a0.lo.val)) (.br (decide (a0.lo.val<=a0.hi.val)) (.leaf (decide (a0.hi.val<1152921504606846976))) (.leaf false)) (.leaf false)
theorem zwJ (a0:Iv):Tb54.run B54 [enc a0] (Bool)=(zhl a0).opt:=by kernel_rfl
def ze:Iv->Bool:=fun a0=>(zhl a0).get
theorem zwd (a0:Iv):(zhl a0).opt=some (ze a0):=Tr.z8 (by kernel_rfl)
def zkT:Ent Tryz.prog:= .of1 Tb54 B54 (fun _=>true) ze fun a0 _=>(zwJ a0).trans (zwd a0)
def B60:Bod Tryz.prog:=⟨60,Tryz.f60,Tryz.f60.body.getD .skip,Tryz.func60,by kernel_rfl,by kernel_rfl,zav.no _ _⟩
def Tb60:Tb Tryz.prog:= {T:= [Y2,Y34],mix:=mix,Es:= [zkT,zeM],Bs:= [],d:=1}
def zei (a0:I64) (a1:I64):Tr (Iv):=
 .br (!(ze ⟨a0,a1⟩)) (.leaf zt) (.leaf ⟨a0,a1⟩)
theorem zs4 (a0:I64) (a1:I64):Tb60.run B60 [enc a0,enc a1] (Iv)=(zei a0 a1).opt:=by kernel_rfl
def zab:I64->I64->Iv:=fun a0 a1=>(zei a0 a1).get
theorem zsB (a0:I64) (a1:I64):(zei a0 a1).opt=some (zab a0 a1):=Tr.z8 (by kernel_rfl)
def zlb:Ent Tryz.prog:= .of2 Tb60 B60 (fun _ _=>true) zab fun a0 a1 _=>(zs4 a0 a1).trans (zsB a0 a1)
def B16:Bod Tryz.prog:=⟨16,Tryz.f16,Tryz.f16.body.getD .skip,Tryz.func16,by kernel_rfl,by kernel_rfl,zav.no _ _⟩
def Tb16:Tb Tryz.prog:= {T:= [Y2,Y34],mix:=mix,Es:= [zkT,zeM,zlb],Bs:= [],d:=1}
def zhe (a0:Iv):Tr (Iv):=
 .br (!(ze a0)) (.leaf zt) (.leaf (zab (Rng.w .i64 (0-a0.hi.val)) (Rng.w .i64 (0-a0.lo.val))))
theorem zyx (a0:Iv):Tb16.run B16 [enc a0] (Iv)=(zhe a0).opt:=by kernel_rfl
def zW:Iv->Iv:=fun a0=>(zhe a0).get
theorem zx0 (a0:Iv):(zhe a0).opt=some (zW a0):=Tr.z8 (by kernel_rfl)
def zsl:Ent Tryz.prog:= .of1 Tb16 B16 (fun _=>true) zW fun a0 _=>(zyx a0).trans (zx0 a0)
def B195:Bod Tryz.prog:=⟨195,Tryz.f195,Tryz.f195.body.getD .skip,Tryz.func195,by kernel_rfl,by kernel_rfl,zav.no _ _⟩
def zJC:Tb Tryz.prog:= {T:= [Y2,Y76],mix:=mix,Es:= [],Bs:= [],d:=1}
def zix (a0:I64):Tr (U64):=
 .br (decide (a0.val<0)) (.leaf (Rng.w .u64 (0-(Rng.w .u64 (a0.val)).val))) (.leaf (Rng.w .u64 (a0.val)))
theorem zs5 (a0:I64):zJC.run B195 [enc a0] (U64)=(zix a0).opt:=by kernel_rfl
def zbx:I64->U64:=fun a0=>(zix a0).get
theorem zsC (a0:I64):(zix a0).opt=some (zbx a0):=Tr.z8 (by kernel_rfl)
def ztD:Ent Tryz.prog:= .of1 zJC B195 (fun _=>true) zbx fun a0 _=>(zs5 a0).trans (zsC a0)
def B194:Bod Tryz.prog:=⟨194,Tryz.f194,Tryz.f194.body.getD .skip,Tryz.func194,by kernel_rfl,by kernel_rfl,zav.no _ _⟩
def zJD:Tb Tryz.prog:= {T:= [],mix:=mix,Es:= [],Bs:= [],d:=1}
def zhE (a0:U64) (a1:U64):Tr (T2 U64 U64):=
 let c8:=(Rng.w .u64 ((Rng.w .u64 ((Rng.w .u64 (a0.val.fdiv 4294967296)).val*(Rng.w .u64 (zbv .and .u64 a1.val 4294967295)).val)).val+(Rng.w .u64 ((Rng.w .u64 ((Rng.w .u64 (zbv .and .u64 a0.val 4294967295)).val*(Rng.w .u64 (zbv .and .u64 a1.val 4294967295)).val)).val.fdiv 4294967296)).val));.leaf ⟨(Rng.w .u64 ((Rng.w .u64 ((Rng.w .u64 ((Rng.w .u64 (a0.val.fdiv 4294967296)).val*(Rng.w .u64 (a1.val.fdiv 4294967296)).val)).val+(Rng.w .u64 (c8.val.fdiv 4294967296)).val)).val+(Rng.w .u64 ((Rng.w .u64 ((Rng.w .u64 ((Rng.w .u64 (zbv .and .u64 a0.val 4294967295)).val*(Rng.w .u64 (a1.val.fdiv 4294967296)).val)).val+(Rng.w .u64 (zbv .and .u64 c8.val 4294967295)).val)).val.fdiv 4294967296)).val)),(Rng.w .u64 (a0.val*a1.val))⟩
theorem zrm (a0:U64) (a1:U64):zJD.run B194 [enc a0,enc a1] (T2 U64 U64)=(zhE a0 a1).opt:=by kernel_rfl
def zeI:U64->U64->T2 U64 U64:=fun a0 a1=>(zhE a0 a1).get
theorem zqX (a0:U64) (a1:U64):(zhE a0 a1).opt=some (zeI a0 a1):=Tr.z8 (by kernel_rfl)
def zsj:Ent Tryz.prog:= .of2 zJD B194 (fun _ _=>true) zeI fun a0 a1 _=>(zrm a0 a1).trans (zqX a0 a1)
def B191:Bod Tryz.prog:=⟨191,Tryz.f191,Tryz.f191.body.getD .skip,Tryz.func191,by kernel_rfl,by kernel_rfl,zav.no _ _⟩
def zJG:Tb Tryz.prog:= {T:= [Y2,Y76,Y115],mix:=mix,Es:= [],Bs:= [],d:=1}
def zdK (a0:Wide):Tr (Wide):=
 let c2:=(Rng.w .u64 (0-a0.lo.val));.br (a0.lo.val==0) (.leaf ⟨(Rng.w .i64 (0-a0.hi.val)),c2⟩) (.leaf ⟨(Rng.w .i64 (zbv .xor .i64 (-1) a0.hi.val)),c2⟩)
theorem zro (a0:Wide):zJG.run B191 [enc a0] (Wide)=(zdK a0).opt:=by kernel_rfl
def zaU:Wide->Wide:=fun a0=>(zdK a0).get
theorem zqZ (a0:Wide):(zdK a0).opt=some (zaU a0):=Tr.z8 (by kernel_rfl)
def zm1:Ent Tryz.prog:= .of1 zJG B191 (fun _=>true) zaU fun a0 _=>(zro a0).trans (zqZ a0)
def Y4:TyE Tryz.prog:=⟨4,1,.bool,[.bool false],false,by kernel_rfl,by kernel_rfl,by kernel_rfl,by kernel_rfl,by kernel_rfl,by kernel_rfl⟩
def B162:Bod Tryz.prog:=⟨162,Tryz.f162,Tryz.f162.body.getD .skip,Tryz.func162,by kernel_rfl,by kernel_rfl,zav.no _ _⟩
def zJU:Tb Tryz.prog:= {T:= [Y2,Y4,Y76,Y115],mix:=mix,Es:= [zm1,zsj,ztD],Bs:= [],d:=1}
def zjt (a0:I64) (a1:I64):Tr (Wide):=
 let c3:=zeI (zbx a0) (zbx a1);.br (!((decide (a0.val<0))==(decide (a1.val<0)))) (.leaf (zaU ⟨(Rng.w .i64 (c3.a.val)),c3.b⟩)) (.leaf ⟨(Rng.w .i64 (c3.a.val)),c3.b⟩)
theorem zva (a0:I64) (a1:I64):zJU.run B162 [enc a0,enc a1] (Wide)=(zjt a0 a1).opt:=by kernel_rfl
def zeb:I64->I64->Wide:=fun a0 a1=>(zjt a0 a1).get
theorem zuH (a0:I64) (a1:I64):(zjt a0 a1).opt=some (zeb a0 a1):=Tr.z8 (by kernel_rfl)
def zoN:Ent Tryz.prog:= .of2 zJU B162 (fun _ _=>true) zeb fun a0 a1 _=>(zva a0 a1).trans (zuH a0 a1)
structure zb5 where
 x0:U64
 x1:U64
 x2:U64
 x3:U64
 x4:U64
 x5:I64
instance:Inhabited zb5:=⟨⟨default,default,default,default,default,default⟩⟩
def zjW (x:zb5):St:=⟨[(1,.u64 x.x0),(2,.u64 x.x1),(9,.u64 x.x2),(10,.u64 x.x3),(11,.u64 x.x4),(12,.i64 x.x5)],51,⟨[],0,0⟩⟩
def zj0:St->Option zb5:=fun s=>match s with
 | ⟨[(1,.u64 x0),(2,.u64 x1),(9,.u64 x2),(10,.u64 x3),(11,.u64 x4),(12,.i64 x5)],51,⟨[],0,0⟩⟩=>some ⟨x0,x1,x2,x3,x4,x5⟩
 | _=>none
def zcA (x:zb5):Tr (Lp zb5):=
 .br (decide (x.x5.val>=0)) (let c7:=(Rng.w .u64 (zbv .or .u64 (Rng.w .u64 (x.x3.val*2)).val (Rng.w .u64 (zbv .and .u64 (Rng.w .u64 (x.x0.val.fdiv (2^min ((Rng.w .u64 (x.x5.val)).val).toNat 64))).val 1)).val));let c8:=(Rng.w .u64 (x.x4.val*2));.br ((Rng.w .u64 (x.x3.val.fdiv 9223372036854775808)).val==1) (.leaf (.again ⟨x.x0,x.x1,x.x2,(Rng.w .u64 (c7.val-x.x1.val)),(Rng.w .u64 (zbv .or .u64 c8.val 1)),(Rng.w .i64 (x.x5.val-1))⟩)) (.br (decide (c7.val>=x.x1.val)) (.leaf (.again ⟨x.x0,x.x1,x.x2,(Rng.w .u64 (c7.val-x.x1.val)),(Rng.w .u64 (zbv .or .u64 c8.val 1)),(Rng.w .i64 (x.x5.val-1))⟩)) (.leaf (.again ⟨x.x0,x.x1,x.x2,c7,c8,(Rng.w .i64 (x.x5.val-1))⟩)))) (.leaf (.out ⟨x.x0,x.x1,x.x2,x.x3,x.x4,x.x5⟩))
def zfE (x:zb5):Bool:=(Lf zcA 66 x).opt.isSome
def zhR (x:zb5):zb5:=(Lf zcA 66 x).get
def znq:Tb Tryz.prog:= {T:= [Y3,Y102],mix:=mix,Es:= [],Bs:= [],d:=1}
def zhQ:LpF:=zvA [1,2,9,10,11,12] [] 0 zj0 zjW (.exit 0) zfE zhR
theorem znp:zlt Tryz.prog (zox (Tryz.f190.body.getD .skip) 0) zhQ:=zlV (t:=znq) (lt:=fun _=>none) (body:=zcA) (n:=66) (by intro h;cases h) (fun _ _ _ h=>by cases h)
 (by intro s x h;unfold zj0 at h;split at h<;>cases h;rfl) (fun x b cs h=>zxp (l:=(zjW x).mm.blks) (by kernel_rfl) h) (by intro x;kernel_rfl) (fun x h=>Tr.get_some h)
def B190:Bod Tryz.prog:=⟨190,Tryz.f190,Tryz.f190.body.getD .skip,Tryz.func190,by kernel_rfl,by kernel_rfl,⟨ltOf [(5,zhQ)],zav.of (ks:= [5]) (by kernel_rfl) (by
 intro i k h f hf
 match i,h with
 | 0,h=>cases h;obtain rfl:zhQ=f:=Option.some.inj hf;exact znp
 | n+1,h=>simp at h)⟩⟩
def zJH:Tb Tryz.prog:= {T:= [Y3,Y102],mix:=mix,Es:= [],Bs:= [],d:=1}
def ze8 (a0:U64) (a1:U64) (a2:U64):Tr (T3 U64 U64 U64):=
 .br (a2.val==0) (.bad) (let c1:=(Rng.w .u64 (a0.val.tdiv a2.val));.br (a2.val==0) (.bad) (let c2:=(Rng.w .u64 (a0.val.tmod a2.val));.br (zfE ⟨a1,a2,c1,c2,⟨0,rfl⟩,⟨63,rfl⟩⟩) (let c17:=zhR ⟨a1,a2,c1,c2,⟨0,rfl⟩,⟨63,rfl⟩⟩;.leaf ⟨c17.x2,c17.x4,c17.x3⟩) (.bad)))
theorem zqj (a0:U64) (a1:U64) (a2:U64):zJH.run B190 [enc a0,enc a1,enc a2] (T3 U64 U64 U64)=(ze8 a0 a1 a2).opt:=by kernel_rfl
def zcl:U64->U64->U64->T3 U64 U64 U64:=fun a0 a1 a2=>(ze8 a0 a1 a2).get
def zfh:U64->U64->U64->Bool:=fun a0 a1 a2=>(ze8 a0 a1 a2).opt.isSome
def zqv:Ent Tryz.prog:= .of3 zJH B190 zfh zcl fun a0 a1 a2 h=>(zqj a0 a1 a2).trans (Tr.get_some h)
def B193:Bod Tryz.prog:=⟨193,Tryz.f193,Tryz.f193.body.getD .skip,Tryz.func193,by kernel_rfl,by kernel_rfl,zav.no _ _⟩
def zJE:Tb Tryz.prog:= {T:= [Y2,Y76,Y115],mix:=mix,Es:= [],Bs:= [],d:=1}
def zkw (a0:I64):Tr (Wide):=
 .br (decide (a0.val<0)) (.leaf ⟨⟨(-1),rfl⟩,(Rng.w .u64 (a0.val))⟩) (.leaf ⟨⟨0,rfl⟩,(Rng.w .u64 (a0.val))⟩)
theorem zwL (a0:I64):zJE.run B193 [enc a0] (Wide)=(zkw a0).opt:=by kernel_rfl
def zdt:I64->Wide:=fun a0=>(zkw a0).get
theorem zwf (a0:I64):(zkw a0).opt=some (zdt a0):=Tr.z8 (by kernel_rfl)
def zqb:Ent Tryz.prog:= .of1 zJE B193 (fun _=>true) zdt fun a0 _=>(zwL a0).trans (zwf a0)
def B192:Bod Tryz.prog:=⟨192,Tryz.f192,Tryz.f192.body.getD .skip,Tryz.func192,by kernel_rfl,by kernel_rfl,zav.no _ _⟩
def zJF:Tb Tryz.prog:= {T:= [Y2,Y76,Y115],mix:=mix,Es:= [],Bs:= [],d:=1}
def zgG (a0:Wide) (a1:Wide):Tr (Wide):=
 let c1:=(Rng.w .i64 (a0.hi.val+a1.hi.val));let c2:=(Rng.w .u64 (a0.lo.val+a1.lo.val));.br (decide (c2.val<a0.lo.val)) (.leaf ⟨(Rng.w .i64 (c1.val+1)),c2⟩) (.leaf ⟨c1,c2⟩)
theorem zs6 (a0:Wide) (a1:Wide):zJF.run B192 [enc a0,enc a1] (Wide)=(zgG a0 a1).opt:=by kernel_rfl
def zfs:Wide->Wide->Wide:=fun a0 a1=>(zgG a0 a1).get
theorem zsD (a0:Wide) (a1:Wide):(zgG a0 a1).opt=some (zfs a0 a1):=Tr.z8 (by kernel_rfl)
def ztE:Ent Tryz.prog:= .of2 zJF B192 (fun _ _=>true) zfs fun a0 a1 _=>(zs6 a0 a1).trans (zsD a0 a1)
def B161:Bod Tryz.prog:=⟨161,Tryz.f161,Tryz.f161.body.getD .skip,Tryz.func161,by kernel_rfl,by kernel_rfl,zav.no _ _⟩
def zJV:Tb Tryz.prog:= {T:= [Y2,Y76,Y115],mix:=mix,Es:= [zqv,zm1,ztE,zqb],Bs:= [],d:=1}
def zf8 (a0:Wide) (a1:I64):Tr (T2 Wide I64):=
 .br (decide (a0.hi.val>=0)) (.br (zfh (Rng.w .u64 (a0.hi.val)) a0.lo (Rng.w .u64 (a1.val))) (let c1:=zcl (Rng.w .u64 (a0.hi.val)) a0.lo (Rng.w .u64 (a1.val));.leaf ⟨⟨(Rng.w .i64 (c1.a.val)),c1.b⟩,(Rng.w .i64 (c1.c.val))⟩) (.bad)) (let c2:=zaU a0;.br (zfh (Rng.w .u64 (c2.hi.val)) c2.lo (Rng.w .u64 (a1.val))) (let c3:=zcl (Rng.w .u64 (c2.hi.val)) c2.lo (Rng.w .u64 (a1.val));let c4:=zaU ⟨(Rng.w .i64 (c3.a.val)),c3.b⟩;.br (c3.c.val==0) (.leaf ⟨c4,⟨0,rfl⟩⟩) (.leaf ⟨(zfs c4 (zdt ⟨(-1),rfl⟩)),(Rng.w .i64 (a1.val-(Rng.w .i64 (c3.c.val)).val))⟩)) (.bad))
theorem zvc (a0:Wide) (a1:I64):zJV.run B161 [enc a0,enc a1] (T2 Wide I64)=(zf8 a0 a1).opt:=by kernel_rfl
def zl8:Wide->I64->T2 Wide I64:=fun a0 a1=>(zf8 a0 a1).get
def zjJ:Wide->I64->Bool:=fun a0 a1=>(zf8 a0 a1).opt.isSome
def zvY:Ent Tryz.prog:= .of2 zJV B161 zjJ zl8 fun a0 a1 h=>(zvc a0 a1).trans (Tr.get_some h)
def B163:Bod Tryz.prog:=⟨163,Tryz.f163,Tryz.f163.body.getD .skip,Tryz.func163,by kernel_rfl,by kernel_rfl,zav.no _ _⟩
def zJT:Tb Tryz.prog:= {T:= [Y2,Y76,Y115],mix:=mix,Es:= [zqb],Bs:= [],d:=1}
def zlC (a0:Wide):Tr (T2 I64 Bool):=
 let c1:=zdt (Rng.w .i64 (a0.lo.val));.br (!((c1.hi.val==a0.hi.val)&&((c1.lo.val==a0.lo.val)&&true))) (.leaf ⟨⟨0,rfl⟩,false⟩) (.leaf ⟨(Rng.w .i64 (a0.lo.val)),true⟩)
theorem zvb (a0:Wide):zJT.run B163 [enc a0] (T2 I64 Bool)=(zlC a0).opt:=by kernel_rfl
def zh0:Wide->T2 I64 Bool:=fun a0=>(zlC a0).get
theorem zuI (a0:Wide):(zlC a0).opt=some (zh0 a0):=Tr.z8 (by kernel_rfl)
def zoO:Ent Tryz.prog:= .of1 zJT B163 (fun _=>true) zh0 fun a0 _=>(zvb a0).trans (zuI a0)
def B125:Bod Tryz.prog:=⟨125,Tryz.f125,Tryz.f125.body.getD .skip,Tryz.func125,by kernel_rfl,by kernel_rfl,zav.no _ _⟩
def zKj:Tb Tryz.prog:= {T:= [Y2,Y76,Y115],mix:=mix,Es:= [zvY,zoN,zoO],Bs:= [],d:=1}
def zda (a0:I64) (a1:I64) (a2:I64):Tr (T2 I64 Bool):=
 .br (decide (a2.val<=0)) (.leaf ⟨⟨0,rfl⟩,false⟩) (let c1:=zeb a0 a1;.br (zjJ c1 a2) (let c3:=zh0 (zl8 c1 a2).a;.leaf ⟨c3.a,c3.b⟩) (.bad))
theorem zog (a0:I64) (a1:I64) (a2:I64):zKj.run B125 [enc a0,enc a1,enc a2] (T2 I64 Bool)=(zda a0 a1 a2).opt:=by kernel_rfl
def zbb:I64->I64->I64->T2 I64 Bool:=fun a0 a1 a2=>(zda a0 a1 a2).get
def zbP:I64->I64->I64->Bool:=fun a0 a1 a2=>(zda a0 a1 a2).opt.isSome
def zkU:Ent Tryz.prog:= .of3 zKj B125 zbP zbb fun a0 a1 a2 h=>(zog a0 a1 a2).trans (Tr.get_some h)
def B51:Bod Tryz.prog:=⟨51,Tryz.f51,Tryz.f51.body.getD .skip,Tryz.func51,by kernel_rfl,by kernel_rfl,zav.no _ _⟩
def zGp:Tb Tryz.prog:= {T:= [Y2,Y34],mix:=mix,Es:= [zhy,zm2,zkU],Bs:= [],d:=1}
def zb4 (a0:I64):Tr (Iv):=
 .br (!(zX a0 ⟨(-36000000000),rfl⟩ ⟨36000000000,rfl⟩)) (.leaf zbe) (.br (a0.val==0) (.leaf ⟨⟨0,rfl⟩,⟨0,rfl⟩⟩) (.br (decide (a0.val<0)) (.bad) (.br (zbP a0 ⟨7244019458077122842,rfl⟩ ⟨966367641600000000,rfl⟩) (.br (zbP a0 ⟨7244019458077122843,rfl⟩ ⟨966367641600000000,rfl⟩) (.leaf ⟨(zbb a0 ⟨7244019458077122842,rfl⟩ ⟨966367641600000000,rfl⟩).a,(Rng.w .i64 ((zbb a0 ⟨7244019458077122843,rfl⟩ ⟨966367641600000000,rfl⟩).a.val+1))⟩) (.bad)) (.bad))))
theorem zof (a0:I64):zGp.run B51 [enc a0] (Iv)=(zb4 a0).opt:=by kernel_rfl
def zcD:I64->Iv:=fun a0=>(zb4 a0).get
def zea:I64->Bool:=fun a0=>(zb4 a0).opt.isSome
def zoR:Ent Tryz.prog:= .of1 zGp B51 zea zcD fun a0 h=>(zof a0).trans (Tr.get_some h)
def Tb51:Tb Tryz.prog:= {T:= [Y2,Y34],mix:=mix,Es:= [zsl,zoR,zhy,zm2,zkU],Bs:= [],d:=1}
def zbT (a0:I64):Tr (Iv):=
 .br (!(zX a0 ⟨(-36000000000),rfl⟩ ⟨36000000000,rfl⟩)) (.leaf zbe) (.br (a0.val==0) (.leaf ⟨⟨0,rfl⟩,⟨0,rfl⟩⟩) (.br (decide (a0.val<0)) (let c3:=(Rng.w .i64 (0-a0.val));.br (zea c3) (.leaf (zW (zcD c3))) (.bad)) (.br (zbP a0 ⟨7244019458077122842,rfl⟩ ⟨966367641600000000,rfl⟩) (.br (zbP a0 ⟨7244019458077122843,rfl⟩ ⟨966367641600000000,rfl⟩) (.leaf ⟨(zbb a0 ⟨7244019458077122842,rfl⟩ ⟨966367641600000000,rfl⟩).a,(Rng.w .i64 ((zbb a0 ⟨7244019458077122843,rfl⟩ ⟨966367641600000000,rfl⟩).a.val+1))⟩) (.bad)) (.bad))))
theorem zqk (a0:I64):Tb51.run B51 [enc a0] (Iv)=(zbT a0).opt:=by kernel_rfl
def zD:I64->Iv:=fun a0=>(zbT a0).get
def B111:Bod Tryz.prog:=⟨111,Tryz.f111,Tryz.f111.body.getD .skip,Tryz.func111,by kernel_rfl,by kernel_rfl,zav.no _ _⟩
def zKx:Tb Tryz.prog:= {T:= [Y34],mix:=mix,Es:= [zdk],Bs:= [],d:=1}
def zdq (a0:Iv):Tr (Bool):=
 .leaf (!(zbs a0))
theorem ztq (a0:Iv):zKx.run B111 [enc a0] (Bool)=(zdq a0).opt:=by kernel_rfl
def zas:Iv->Bool:=fun a0=>(zdq a0).get
theorem zsS (a0:Iv):(zdq a0).opt=some (zas a0):=Tr.z8 (by kernel_rfl)
def zbI:Ent Tryz.prog:= .of1 zKx B111 (fun _=>true) zas fun a0 _=>(ztq a0).trans (zsS a0)
def B83:Bod Tryz.prog:=⟨83,Tryz.f83,Tryz.f83.body.getD .skip,Tryz.func83,by kernel_rfl,by kernel_rfl,zav.no _ _⟩
def Tb83:Tb Tryz.prog:= {T:= [Y2,Y34],mix:=mix,Es:= [zaA,zbI],Bs:= [],d:=1}
def zlJ (a0:Iv):Tr (Iv):=
 .br (zas a0) (.leaf zL) (.leaf ⟨(Rng.w .i64 (0-a0.hi.val)),(Rng.w .i64 (0-a0.lo.val))⟩)
theorem zyF (a0:Iv):Tb83.run B83 [enc a0] (Iv)=(zlJ a0).opt:=by kernel_rfl
def zdf:Iv->Iv:=fun a0=>(zlJ a0).get
theorem zx7 (a0:Iv):(zlJ a0).opt=some (zdf a0):=Tr.z8 (by kernel_rfl)
def zhj:Ent Tryz.prog:= .of1 Tb83 B83 (fun _=>true) zdf fun a0 _=>(zyF a0).trans (zx7 a0)
def B34:Bod Tryz.prog:=⟨34,Tryz.f34,Tryz.f34.body.getD .skip,Tryz.func34,by kernel_rfl,by kernel_rfl,zav.no _ _⟩
def zGq:Tb Tryz.prog:= {T:= [Y2,Y34],mix:=mix,Es:= [za1,zaA,zh9],Bs:= [],d:=1}
def zd7 (a0:I64):Tr (Iv):=
 .br (!(zaw a0 ⟨(-36000000000),rfl⟩ ⟨36000000000,rfl⟩)) (.leaf zL) (.br (decide (a0.val<0)) (.bad) (.br (a0.val==0) (.leaf ⟨⟨0,rfl⟩,⟨0,rfl⟩⟩) (.br (zb6 a0 ⟨7244019458077122842,rfl⟩ ⟨966367641600000000,rfl⟩) (.br (zb6 a0 ⟨7244019458077122843,rfl⟩ ⟨966367641600000000,rfl⟩) (.leaf ⟨(zbm a0 ⟨7244019458077122842,rfl⟩ ⟨966367641600000000,rfl⟩).a,(Rng.w .i64 ((zbm a0 ⟨7244019458077122843,rfl⟩ ⟨966367641600000000,rfl⟩).a.val+1))⟩) (.bad)) (.bad))))
theorem zol (a0:I64):zGq.run B34 [enc a0] (Iv)=(zd7 a0).opt:=by kernel_rfl
def zh5:I64->Iv:=fun a0=>(zd7 a0).get
def zfF:I64->Bool:=fun a0=>(zd7 a0).opt.isSome
def zoW:Ent Tryz.prog:= .of1 zGq B34 zfF zh5 fun a0 h=>(zol a0).trans (Tr.get_some h)
def Tb34:Tb Tryz.prog:= {T:= [Y2,Y34],mix:=mix,Es:= [zoW,za1,zaA,zhj,zh9],Bs:= [],d:=1}
def zfb (a0:I64):Tr (Iv):=
 .br (!(zaw a0 ⟨(-36000000000),rfl⟩ ⟨36000000000,rfl⟩)) (.leaf zL) (.br (decide (a0.val<0)) (let c3:=(Rng.w .i64 (0-a0.val));.br (zfF c3) (.leaf (zdf (zh5 c3))) (.bad)) (.br (a0.val==0) (.leaf ⟨⟨0,rfl⟩,⟨0,rfl⟩⟩) (.br (zb6 a0 ⟨7244019458077122842,rfl⟩ ⟨966367641600000000,rfl⟩) (.br (zb6 a0 ⟨7244019458077122843,rfl⟩ ⟨966367641600000000,rfl⟩) (.leaf ⟨(zbm a0 ⟨7244019458077122842,rfl⟩ ⟨966367641600000000,rfl⟩).a,(Rng.w .i64 ((zbm a0 ⟨7244019458077122843,rfl⟩ ⟨966367641600000000,rfl⟩).a.val+1))⟩) (.bad)) (.bad))))
theorem zqo (a0:I64):Tb34.run B34 [enc a0] (Iv)=(zfb a0).opt:=by kernel_rfl
def zcH:I64->Iv:=fun a0=>(zfb a0).get
def B126:Bod Tryz.prog:=⟨126,Tryz.f126,Tryz.f126.body.getD .skip,Tryz.func126,by kernel_rfl,by kernel_rfl,zav.no _ _⟩
def zKi:Tb Tryz.prog:= {T:= [],mix:=mix,Es:= [zhy],Bs:= [],d:=1}
def zd6 (a0:I64):Tr (Bool):=
 .leaf (zX a0 ⟨(-1152921504606846976),rfl⟩ ⟨1152921504606846976,rfl⟩)
theorem zwK (a0:I64):zKi.run B126 [enc a0] (Bool)=(zd6 a0).opt:=by kernel_rfl
def zG:I64->Bool:=fun a0=>(zd6 a0).get
theorem zwe (a0:I64):(zd6 a0).opt=some (zG a0):=Tr.z8 (by kernel_rfl)
def zm0:Ent Tryz.prog:= .of1 zKi B126 (fun _=>true) zG fun a0 _=>(zwK a0).trans (zwe a0)
def B128:Bod Tryz.prog:=⟨128,Tryz.f128,Tryz.f128.body.getD .skip,Tryz.func128,by kernel_rfl,by kernel_rfl,zav.no _ _⟩
def zKg:Tb Tryz.prog:= {T:= [],mix:=mix,Es:= [zm0],Bs:= [],d:=1}
def zcy (a0:I64) (a1:Bool):Tr (T2 I64 Bool):=
 .br (!a1) (.leaf ⟨⟨0,rfl⟩,false⟩) (.br (!(zG a0)) (.leaf ⟨⟨0,rfl⟩,false⟩) (.leaf ⟨a0,true⟩))
theorem zu9 (a0:I64) (a1:Bool):zKg.run B128 [enc a0,enc a1] (T2 I64 Bool)=(zcy a0 a1).opt:=by kernel_rfl
def zaB:I64->Bool->T2 I64 Bool:=fun a0 a1=>(zcy a0 a1).get
theorem zuG (a0:I64) (a1:Bool):(zcy a0 a1).opt=some (zaB a0 a1):=Tr.z8 (by kernel_rfl)
def zvX:Ent Tryz.prog:= .of2 zKg B128 (fun _ _=>true) zaB fun a0 a1 _=>(zu9 a0 a1).trans (zuG a0 a1)
def zfJ (a0:I64) (a1:I64):Tr (T2 I64 Bool):=
 .br (decide (a1.val<=0)) (.leaf ⟨⟨0,rfl⟩,false⟩) (.br (zbP a0 ⟨4294967296,rfl⟩ a1) (let c1:=zbb a0 ⟨4294967296,rfl⟩ a1;let c2:=zaB c1.a c1.b;.leaf ⟨c2.a,c2.b⟩) (.bad))
def zkj:I64->I64->T2 I64 Bool:=fun a0 a1=>(zfJ a0 a1).get
def zhU:I64->I64->Bool:=fun a0 a1=>(zfJ a0 a1).opt.isSome
def zgF (a0:I64) (a1:I64):Tr (T2 I64 Bool):=
 .br (decide (a1.val<=0)) (.leaf ⟨⟨0,rfl⟩,false⟩) (.br (zbP a0 ⟨4294967296,rfl⟩ a1) (let c1:=zbb a0 ⟨4294967296,rfl⟩ a1;.br (!c1.b) (.leaf ⟨⟨0,rfl⟩,false⟩) (.br ((Rng.w .i64 (c1.a.val*a1.val)).val != (Rng.w .i64 (a0.val*4294967296)).val) (let c5:=zaB (Rng.w .i64 (c1.a.val+1)) true;.leaf ⟨c5.a,c5.b⟩) (let c6:=zaB c1.a true;.leaf ⟨c6.a,c6.b⟩))) (.bad))
def zk9:I64->I64->T2 I64 Bool:=fun a0 a1=>(zgF a0 a1).get
def ziP:I64->I64->Bool:=fun a0 a1=>(zgF a0 a1).opt.isSome
def zjR (a0:I64) (a1:I64):Tr (Iv):=
 .br (decide (a1.val<0)) (.br (a0.val==(-9223372036854775808)) (.leaf zt) (.br (a1.val==(-9223372036854775808)) (.leaf zt) (let c5:=(Rng.w .i64 (0-a0.val));let c6:=(Rng.w .i64 (0-a1.val));.br (zhU c5 c6) (let c7:=zkj c5 c6;.br (ziP c5 c6) (let c8:=zk9 c5 c6;.br (!c7.b) (.leaf zt) (.br (!c8.b) (.leaf zt) (.leaf (zab c7.a c8.a)))) (.bad)) (.bad)))) (.br (zhU a0 a1) (let c12:=zkj a0 a1;.br (ziP a0 a1) (let c13:=zk9 a0 a1;.br (!c12.b) (.leaf zt) (.br (!c13.b) (.leaf zt) (.leaf (zab c12.a c13.a)))) (.bad)) (.bad))
def zK:I64->I64->Iv:=fun a0 a1=>(zjR a0 a1).get
end
end Go.Proofs.YtkenfaengphiiaaGreatDoor.Ev
namespace Go.Proofs.YtkenfaengphiiaaGreatDoor.Ev
open Go
theorem wi {n:Int} (h: -9223372036854775808<=n) (h':n<=9223372036854775807):(Rng.w .i64 n).val=n:=zgX (k:= .i64) (by simp [inB,h,h'])
theorem wu {n:Int} (h:0<=n) (h':n<=18446744073709551615):(Rng.w .u64 n).val=n:=zgX (k:= .u64) (by simp [inB,h,h'])
theorem zbf (n:Int):(Rng.w .u64 n).val=n%18446744073709551616:=by
 show IntKind.u64.wrap n=_
 simp [IntKind.wrap,IntKind.bits,IntKind.signed]
theorem zbO (a b c:I64):zaw a b c=decide (b.val<=a.val/\a.val<=c.val):=by
 simp only [zaw,zjv,Tr.get,ge_iff_le]
 by_cases h:b.val<=a.val<;>simp [h]
theorem zcO (a b c:I64):zX a b c=decide (b.val<=a.val/\a.val<=c.val):=by
 simp only [zX,zkx,Tr.get,ge_iff_le]
 by_cases h:b.val<=a.val<;>simp [h]
theorem zon (p:zbk):zbH p=zay p:=by
 simp only [zbH,zay,zdC,ziV,Tr.get,zbO,zcO]
 rw [Bool.eq_iff_iff]
 simp [Bool.cond_eq_ite]
 grind
theorem zEb (n:I64) (h: -9223372036854775807<=n.val):(zaD n).val=if n.val<0 then -n.val else n.val:=by
 have b:=n.bd
 simp only [zaD,zlj,Tr.get,mx]
 rw [wi (by omega) (by omega)]
 by_cases h0:n.val<0
 ·have e:decide (0-n.val>n.val)=true:=by simp;omega
  rw [e,cond_true,wi (by omega) (by omega)];simp [h0]
 ·have e:decide (0-n.val>n.val)=false:=by simp;omega
  rw [e,cond_false];simp [h0]
end Go.Proofs.YtkenfaengphiiaaGreatDoor.Ev
