/- The law FnLocal gives true, whatever bytes come in, where the listed tables hold what the program's text lays. The card: the tables tied to the text. No other conditions. (One of the texts of its proof, put together by a program of this session.) -/
import Derived.Test.YtlolpmmloolieaaGreatDoorZW5
import Derived.Test.YtlolpmmloolieaaGreatDoorZTE
import Derived.Test.YtlolpmmloolieaaGreatDoorZEC
set_option linter.unusedSectionVars false
set_option linter.unusedSimpArgs false
set_option linter.unusedVariables false
noncomputable section
namespace Go.Proofs.YtlolpmmloolieaaGreatDoor.Ev
open Go Go.RowKit
set_option maxRecDepth 100000
section
variable [Amb]
def B3:Bod Tryz.prog:=⟨3,Tryz.f3,Tryz.f3.body.getD .skip,Tryz.func3,by kernel_rfl,by kernel_rfl,zai.no _ _⟩
def Y30c:TyE Tryz.prog:=⟨30,3,(.struct [(0,28,2),(2,2,1)]),[.i64 ⟨0,rfl⟩,.i64 ⟨0,rfl⟩,.i64 ⟨0,rfl⟩],true,by kernel_rfl,by kernel_rfl,by kernel_rfl,by kernel_rfl,by kernel_rfl,by kernel_rfl⟩
def Tb3 (o0:Bool) (o1:Ell) (o2:Place) (o3:Place) (h0:Orac Tryz.prog 4 [0,1] o0) (h1:Orac Tryz.prog 5 [1] o1) (h2:Orac Tryz.prog 6 [0] o2) (h3:Orac Tryz.prog 6 [1] o3):Tb Tryz.prog:= {T:= [Y2,Y25,Y28,Y30c,Y33,Y37],mix:=mix,Es:= [Ent.orac2 6 [0] o2 h2 [1] o3 h3,Ent.orac 5 [1] o1 h1,Ent.orac 4 [0,1] o0 h0,E_impl_ChordBetween,E_impl_LocalTo,E_impl_ToCartesian,E_impl_InsideOf,E_impl_ReadPlace,E_impl_PlaceText,E_spec_OverlapI,E_spec_NormV],Bs:= [],d:=1}
def t_laws_FnLocal (o0:Bool) (o1:Ell) (o2:Place) (o3:Place):Tr Bool:=
 .br o0 (.leaf true) (let c5:=zba o1 o2 o3;let c6:=zba o1 o3 o2;let c7:=ze1 o1 o2 o3;let c8:=zcR o1 o2;let c9:=zdm o1 c8.a;.br (G_impl_PlaceText o2) (let c10:=zfg o2;.br (G_impl_ReadPlace c10) (let c11:=F_impl_ReadPlace c10;.br (c5.b.val==0) (.br (c6.b.val==0) (.br (c7.b.val==0) (.br (c8.b.val==0) (.br (c9.b.val==0) (.br c11.b (.br (((c11.a.pt.lat.val==o2.pt.lat.val)&&((c11.a.pt.lon.val==o2.pt.lon.val)&&true))&&((c11.a.h.val==o2.h.val)&&true)) (.br (zat c5.a c6.a) (.br (zat (za3 c7.a) c5.a) (.leaf (c9.a.val != 1)) (.leaf false)) (.leaf false)) (.leaf false)) (.leaf false)) (.leaf false)) (.leaf false)) (.leaf false)) (.leaf false)) (.leaf false)) (.bad)) (.bad))
theorem r_laws_FnLocal (o0:Bool) (o1:Ell) (o2:Place) (o3:Place) (h0:Orac Tryz.prog 4 [0,1] o0) (h1:Orac Tryz.prog 5 [1] o1) (h2:Orac Tryz.prog 6 [0] o2) (h3:Orac Tryz.prog 6 [1] o3):(Tb3 o0 o1 o2 o3 h0 h1 h2 h3).run B3 [.arg 0,.arg 1] Bool=(t_laws_FnLocal o0 o1 o2 o3).opt:=by kernel_rfl
end
end Go.Proofs.YtlolpmmloolieaaGreatDoor.Ev
