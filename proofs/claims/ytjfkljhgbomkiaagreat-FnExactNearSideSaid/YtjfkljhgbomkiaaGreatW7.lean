import Derived.Test.YtjfkljhgbomkiaaGreatW6
import Derived.Test.YtjfkljhgbomkiaaGreatP13
namespace Go.Proofs.YtjfkljhgbomkiaaGreat.Ev
open Go Go.RowKit
set_option maxRecDepth 100000
set_option linter.unusedVariables false
section
noncomputable def ET_impl_NormV : Ent Tryz.prog := .of1 Tb81 B81 (fun _ => true) F_impl_NormV fun a0 _ => (r_impl_NormV a0).trans (tt_norm_impl a0)
noncomputable def B46 : Bod Tryz.prog := ⟨46, Tryz.f46, Tryz.f46.body.getD .skip, Tryz.func46, by kernel_rfl, by kernel_rfl, Loops.no _ _⟩
noncomputable def Tb46 : Tb Tryz.prog := { T := [Y2, Y25, Y27, Y30], mix := mix, Es := [ET_spec_RadiansOf, E_spec_MulI, E_spec_CosI, E_spec_SinI], Bs := [], d := 1 }
noncomputable def t_spec_l15Vec (a0 : Point) : Tr (Vec) :=
  let c1 := F_spec_RadiansOf a0.lat; let c2 := F_spec_RadiansOf a0.lon; let c3 := F_spec_CosI c1; .leaf ⟨(F_spec_MulI c3 (F_spec_CosI c2)), (F_spec_MulI c3 (F_spec_SinI c2)), (F_spec_SinI c1)⟩
theorem r_spec_l15Vec (a0 : Point) : Tb46.run B46 [enc a0] (Vec) = (t_spec_l15Vec a0).opt := by kernel_rfl
noncomputable def F_spec_l15Vec : Point → Vec := fun a0 => (t_spec_l15Vec a0).get
theorem u_spec_l15Vec (a0 : Point) : (t_spec_l15Vec a0).opt = some (F_spec_l15Vec a0) := Tr.tot_get (by kernel_rfl)
noncomputable def E_spec_l15Vec : Ent Tryz.prog := .of1 Tb46 B46 (fun _ => true) F_spec_l15Vec fun a0 _ => (r_spec_l15Vec a0).trans (u_spec_l15Vec a0)
noncomputable def B15 : Bod Tryz.prog := ⟨15, Tryz.f15, Tryz.f15.body.getD .skip, Tryz.func15, by kernel_rfl, by kernel_rfl, Loops.no _ _⟩
noncomputable def Tb15 : Tb Tryz.prog := { T := [Y2, Y25, Y27, Y30], mix := mix, Es := [E_spec_l11Ok, E_spec_l15Vec], Bs := [], d := 1 }
noncomputable def t_spec_VectorOf (a0 : Point) : Tr (T2 Vec I64) :=
  .br (!(F_spec_l11Ok a0)) (.leaf ⟨⟨⟨⟨0, rfl⟩, ⟨0, rfl⟩⟩, ⟨⟨0, rfl⟩, ⟨0, rfl⟩⟩, ⟨⟨0, rfl⟩, ⟨0, rfl⟩⟩⟩, ⟨1, rfl⟩⟩) (.leaf ⟨(F_spec_l15Vec a0), ⟨0, rfl⟩⟩)
theorem r_spec_VectorOf (a0 : Point) : Tb15.run B15 [enc a0] (T2 Vec I64) = (t_spec_VectorOf a0).opt := by kernel_rfl
noncomputable def F_spec_VectorOf : Point → T2 Vec I64 := fun a0 => (t_spec_VectorOf a0).get
theorem u_spec_VectorOf (a0 : Point) : (t_spec_VectorOf a0).opt = some (F_spec_VectorOf a0) := Tr.tot_get (by kernel_rfl)
noncomputable def E_spec_VectorOf : Ent Tryz.prog := .of1 Tb15 B15 (fun _ => true) F_spec_VectorOf fun a0 _ => (r_spec_VectorOf a0).trans (u_spec_VectorOf a0)
noncomputable def B73 : Bod Tryz.prog := ⟨73, Tryz.f73, Tryz.f73.body.getD .skip, Tryz.func73, by kernel_rfl, by kernel_rfl, Loops.no _ _⟩
noncomputable def Tb73 : Tb Tryz.prog := { T := [Y2, Y25, Y30], mix := mix, Es := [E_impl_ValidPoint, E_impl_Whole, ET_impl_RadiansOf], Bs := [], d := 1 }
noncomputable def t_impl_LatOf (a0 : Point) : Tr (Iv) :=
  .br (!(F_impl_ValidPoint a0)) (.leaf F_impl_Whole) (.leaf (F_impl_RadiansOf a0.lat))
theorem r_impl_LatOf (a0 : Point) : Tb73.run B73 [enc a0] (Iv) = (t_impl_LatOf a0).opt := by kernel_rfl
noncomputable def F_impl_LatOf : Point → Iv := fun a0 => (t_impl_LatOf a0).get
theorem u_impl_LatOf (a0 : Point) : (t_impl_LatOf a0).opt = some (F_impl_LatOf a0) := Tr.tot_get (by kernel_rfl)
noncomputable def E_impl_LatOf : Ent Tryz.prog := .of1 Tb73 B73 (fun _ => true) F_impl_LatOf fun a0 _ => (r_impl_LatOf a0).trans (u_impl_LatOf a0)
noncomputable def B87 : Bod Tryz.prog := ⟨87, Tryz.f87, Tryz.f87.body.getD .skip, Tryz.func87, by kernel_rfl, by kernel_rfl, Loops.no _ _⟩
noncomputable def Tb87 : Tb Tryz.prog := { T := [Y2, Y25, Y30], mix := mix, Es := [E_impl_ValidPoint, E_impl_Whole, ET_impl_RadiansOf], Bs := [], d := 1 }
noncomputable def t_impl_LonOf (a0 : Point) : Tr (Iv) :=
  .br (!(F_impl_ValidPoint a0)) (.leaf F_impl_Whole) (.leaf (F_impl_RadiansOf a0.lon))
theorem r_impl_LonOf (a0 : Point) : Tb87.run B87 [enc a0] (Iv) = (t_impl_LonOf a0).opt := by kernel_rfl
noncomputable def F_impl_LonOf : Point → Iv := fun a0 => (t_impl_LonOf a0).get
theorem u_impl_LonOf (a0 : Point) : (t_impl_LonOf a0).opt = some (F_impl_LonOf a0) := Tr.tot_get (by kernel_rfl)
noncomputable def E_impl_LonOf : Ent Tryz.prog := .of1 Tb87 B87 (fun _ => true) F_impl_LonOf fun a0 _ => (r_impl_LonOf a0).trans (u_impl_LonOf a0)
noncomputable def B48 : Bod Tryz.prog := ⟨48, Tryz.f48, Tryz.f48.body.getD .skip, Tryz.func48, by kernel_rfl, by kernel_rfl, Loops.no _ _⟩
noncomputable def Tb48 : Tb Tryz.prog := { T := [Y2, Y25, Y27, Y30], mix := mix, Es := [E_impl_LatOf, E_impl_SinI, E_impl_CosI, ET_impl_MulI, E_impl_LonOf], Bs := [], d := 1 }
noncomputable def t_impl_vectorOf (a0 : Point) : Tr (Vec) :=
  let c1 := F_impl_LatOf a0; let c2 := F_impl_LonOf a0; .leaf ⟨(F_impl_MulI (F_impl_CosI c1) (F_impl_CosI c2)), (F_impl_MulI (F_impl_CosI c1) (F_impl_SinI c2)), (F_impl_SinI c1)⟩
theorem r_impl_vectorOf (a0 : Point) : Tb48.run B48 [enc a0] (Vec) = (t_impl_vectorOf a0).opt := by kernel_rfl
noncomputable def F_impl_vectorOf : Point → Vec := fun a0 => (t_impl_vectorOf a0).get
theorem u_impl_vectorOf (a0 : Point) : (t_impl_vectorOf a0).opt = some (F_impl_vectorOf a0) := Tr.tot_get (by kernel_rfl)
noncomputable def E_impl_vectorOf : Ent Tryz.prog := .of1 Tb48 B48 (fun _ => true) F_impl_vectorOf fun a0 _ => (r_impl_vectorOf a0).trans (u_impl_vectorOf a0)
noncomputable def B17 : Bod Tryz.prog := ⟨17, Tryz.f17, Tryz.f17.body.getD .skip, Tryz.func17, by kernel_rfl, by kernel_rfl, Loops.no _ _⟩
noncomputable def Tb17 : Tb Tryz.prog := { T := [Y2, Y25, Y27, Y30], mix := mix, Es := [E_impl_ValidPoint, E_impl_vectorOf], Bs := [], d := 1 }
noncomputable def t_impl_VectorOf (a0 : Point) : Tr (T2 Vec I64) :=
  .br (!(F_impl_ValidPoint a0)) (.leaf ⟨⟨⟨⟨0, rfl⟩, ⟨0, rfl⟩⟩, ⟨⟨0, rfl⟩, ⟨0, rfl⟩⟩, ⟨⟨0, rfl⟩, ⟨0, rfl⟩⟩⟩, ⟨1, rfl⟩⟩) (.leaf ⟨(F_impl_vectorOf a0), ⟨0, rfl⟩⟩)
theorem r_impl_VectorOf (a0 : Point) : Tb17.run B17 [enc a0] (T2 Vec I64) = (t_impl_VectorOf a0).opt := by kernel_rfl
noncomputable def F_impl_VectorOf : Point → T2 Vec I64 := fun a0 => (t_impl_VectorOf a0).get
theorem u_impl_VectorOf (a0 : Point) : (t_impl_VectorOf a0).opt = some (F_impl_VectorOf a0) := Tr.tot_get (by kernel_rfl)
noncomputable def E_impl_VectorOf : Ent Tryz.prog := .of1 Tb17 B17 (fun _ => true) F_impl_VectorOf fun a0 _ => (r_impl_VectorOf a0).trans (u_impl_VectorOf a0)
noncomputable def B18 : Bod Tryz.prog := ⟨18, Tryz.f18, Tryz.f18.body.getD .skip, Tryz.func18, by kernel_rfl, by kernel_rfl, Loops.no _ _⟩
noncomputable def Tb18 : Tb Tryz.prog := { T := [Y25, Y27], mix := mix, Es := [E_laws_eqInterval], Bs := [], d := 1 }
noncomputable def t_laws_eqVec (a0 : Vec) (a1 : Vec) : Tr (Bool) :=
  .br (!(F_laws_eqInterval a0.x a1.x)) (.leaf false) (.br (!(F_laws_eqInterval a0.y a1.y)) (.leaf false) (.br (!(F_laws_eqInterval a0.z a1.z)) (.leaf false) (.leaf true)))
theorem r_laws_eqVec (a0 : Vec) (a1 : Vec) : Tb18.run B18 [enc a0, enc a1] (Bool) = (t_laws_eqVec a0 a1).opt := by kernel_rfl
noncomputable def F_laws_eqVec : Vec → Vec → Bool := fun a0 a1 => (t_laws_eqVec a0 a1).get
theorem u_laws_eqVec (a0 : Vec) (a1 : Vec) : (t_laws_eqVec a0 a1).opt = some (F_laws_eqVec a0 a1) := Tr.tot_get (by kernel_rfl)
noncomputable def E_laws_eqVec : Ent Tryz.prog := .of2 Tb18 B18 (fun _ _ => true) F_laws_eqVec fun a0 a1 _ => (r_laws_eqVec a0 a1).trans (u_laws_eqVec a0 a1)
noncomputable def B3 : Bod Tryz.prog := ⟨3, Tryz.f3, Tryz.f3.body.getD .skip, Tryz.func3, by kernel_rfl, by kernel_rfl, Loops.no _ _⟩
noncomputable def Tb3 : Tb Tryz.prog := { T := [Y2, Y23, Y25, Y27], mix := mix, Es := [E_spec_VectorOf, E_laws_toPoint, E_impl_VectorOf, E_laws_eqVec], Bs := [], d := 1 }
noncomputable def t_laws_FnExactVectorOf (a0 : Point) : Tr (Bool) :=
  let c2 := F_spec_VectorOf (F_laws_toPoint a0); let c4 := F_impl_VectorOf (F_laws_toPoint a0); .br (!(F_laws_eqVec c4.a c2.a)) (.leaf false) (.br (c4.b.val != c2.b.val) (.leaf false) (.leaf true))
theorem r_laws_FnExactVectorOf (a0 : Point) : Tb3.run B3 [enc a0] (Bool) = (t_laws_FnExactVectorOf a0).opt := by kernel_rfl
noncomputable def F_laws_FnExactVectorOf : Point → Bool := fun a0 => (t_laws_FnExactVectorOf a0).get
theorem u_laws_FnExactVectorOf (a0 : Point) : (t_laws_FnExactVectorOf a0).opt = some (F_laws_FnExactVectorOf a0) := Tr.tot_get (by kernel_rfl)
noncomputable def E_laws_FnExactVectorOf : Ent Tryz.prog := .of1 Tb3 B3 (fun _ => true) F_laws_FnExactVectorOf fun a0 _ => (r_laws_FnExactVectorOf a0).trans (u_laws_FnExactVectorOf a0)
noncomputable def B52 : Bod Tryz.prog := ⟨52, Tryz.f52, Tryz.f52.body.getD .skip, Tryz.func52, by kernel_rfl, by kernel_rfl, Loops.no _ _⟩
noncomputable def Tb52 : Tb Tryz.prog := { T := [Y2, Y25, Y27], mix := mix, Es := [E_spec_MulI, E_spec_SubI], Bs := [], d := 1 }
noncomputable def t_spec_CrossV (a0 : Vec) (a1 : Vec) : Tr (Vec) :=
  .leaf ⟨(F_spec_SubI (F_spec_MulI a0.y a1.z) (F_spec_MulI a0.z a1.y)), (F_spec_SubI (F_spec_MulI a0.z a1.x) (F_spec_MulI a0.x a1.z)), (F_spec_SubI (F_spec_MulI a0.x a1.y) (F_spec_MulI a0.y a1.x))⟩
theorem r_spec_CrossV (a0 : Vec) (a1 : Vec) : Tb52.run B52 [enc a0, enc a1] (Vec) = (t_spec_CrossV a0 a1).opt := by kernel_rfl
noncomputable def F_spec_CrossV : Vec → Vec → Vec := fun a0 a1 => (t_spec_CrossV a0 a1).get
theorem u_spec_CrossV (a0 : Vec) (a1 : Vec) : (t_spec_CrossV a0 a1).opt = some (F_spec_CrossV a0 a1) := Tr.tot_get (by kernel_rfl)
noncomputable def E_spec_CrossV : Ent Tryz.prog := .of2 Tb52 B52 (fun _ _ => true) F_spec_CrossV fun a0 a1 _ => (r_spec_CrossV a0 a1).trans (u_spec_CrossV a0 a1)
noncomputable def B51 : Bod Tryz.prog := ⟨51, Tryz.f51, Tryz.f51.body.getD .skip, Tryz.func51, by kernel_rfl, by kernel_rfl, Loops.no _ _⟩
noncomputable def Tb51 : Tb Tryz.prog := { T := [Y2, Y25, Y27], mix := mix, Es := [E_spec_MulI, E_spec_AddI], Bs := [], d := 1 }
noncomputable def t_spec_DotV (a0 : Vec) (a1 : Vec) : Tr (Iv) :=
  .leaf (F_spec_AddI (F_spec_AddI (F_spec_MulI a0.x a1.x) (F_spec_MulI a0.y a1.y)) (F_spec_MulI a0.z a1.z))
theorem r_spec_DotV (a0 : Vec) (a1 : Vec) : Tb51.run B51 [enc a0, enc a1] (Iv) = (t_spec_DotV a0 a1).opt := by kernel_rfl
noncomputable def F_spec_DotV : Vec → Vec → Iv := fun a0 a1 => (t_spec_DotV a0 a1).get
theorem u_spec_DotV (a0 : Vec) (a1 : Vec) : (t_spec_DotV a0 a1).opt = some (F_spec_DotV a0 a1) := Tr.tot_get (by kernel_rfl)
noncomputable def E_spec_DotV : Ent Tryz.prog := .of2 Tb51 B51 (fun _ _ => true) F_spec_DotV fun a0 a1 _ => (r_spec_DotV a0 a1).trans (u_spec_DotV a0 a1)
noncomputable def B19 : Bod Tryz.prog := ⟨19, Tryz.f19, Tryz.f19.body.getD .skip, Tryz.func19, by kernel_rfl, by kernel_rfl, Loops.no _ _⟩
noncomputable def Tb19 : Tb Tryz.prog := { T := [Y30], mix := mix, Es := [E_spec_l11Ok, E_spec_l15Vec, E_spec_LessI, E_spec_Integer, E_spec_DotV, E_spec_CrossV], Bs := [], d := 1 }
noncomputable def t_spec_SideOf (a0 : Point) (a1 : Point) (a2 : Point) : Tr (T2 I64 I64) :=
  .br (!(F_spec_l11Ok a0)) (.leaf ⟨⟨0, rfl⟩, ⟨1, rfl⟩⟩) (.br (!(F_spec_l11Ok a1)) (.leaf ⟨⟨0, rfl⟩, ⟨1, rfl⟩⟩) (.br (!(F_spec_l11Ok a2)) (.leaf ⟨⟨0, rfl⟩, ⟨1, rfl⟩⟩) (.leaf ⟨(F_spec_LessI (F_spec_Integer ⟨0, rfl⟩) (F_spec_DotV (F_spec_CrossV (F_spec_l15Vec a0) (F_spec_l15Vec a1)) (F_spec_l15Vec a2))), ⟨0, rfl⟩⟩)))
theorem r_spec_SideOf (a0 : Point) (a1 : Point) (a2 : Point) : Tb19.run B19 [enc a0, enc a1, enc a2] (T2 I64 I64) = (t_spec_SideOf a0 a1 a2).opt := by kernel_rfl
noncomputable def F_spec_SideOf : Point → Point → Point → T2 I64 I64 := fun a0 a1 a2 => (t_spec_SideOf a0 a1 a2).get
theorem u_spec_SideOf (a0 : Point) (a1 : Point) (a2 : Point) : (t_spec_SideOf a0 a1 a2).opt = some (F_spec_SideOf a0 a1 a2) := Tr.tot_get (by kernel_rfl)
noncomputable def E_spec_SideOf : Ent Tryz.prog := .of3 Tb19 B19 (fun _ _ _ => true) F_spec_SideOf fun a0 a1 a2 _ => (r_spec_SideOf a0 a1 a2).trans (u_spec_SideOf a0 a1 a2)
noncomputable def B57 : Bod Tryz.prog := ⟨57, Tryz.f57, Tryz.f57.body.getD .skip, Tryz.func57, by kernel_rfl, by kernel_rfl, Loops.no _ _⟩
noncomputable def Tb57 : Tb Tryz.prog := { T := [Y2, Y25, Y27], mix := mix, Es := [E_impl_SubI, ET_impl_MulI], Bs := [], d := 1 }
noncomputable def t_impl_CrossV (a0 : Vec) (a1 : Vec) : Tr (Vec) :=
  .leaf ⟨(F_impl_SubI (F_impl_MulI a0.y a1.z) (F_impl_MulI a0.z a1.y)), (F_impl_SubI (F_impl_MulI a0.z a1.x) (F_impl_MulI a0.x a1.z)), (F_impl_SubI (F_impl_MulI a0.x a1.y) (F_impl_MulI a0.y a1.x))⟩
theorem r_impl_CrossV (a0 : Vec) (a1 : Vec) : Tb57.run B57 [enc a0, enc a1] (Vec) = (t_impl_CrossV a0 a1).opt := by kernel_rfl
noncomputable def F_impl_CrossV : Vec → Vec → Vec := fun a0 a1 => (t_impl_CrossV a0 a1).get
theorem u_impl_CrossV (a0 : Vec) (a1 : Vec) : (t_impl_CrossV a0 a1).opt = some (F_impl_CrossV a0 a1) := Tr.tot_get (by kernel_rfl)
noncomputable def E_impl_CrossV : Ent Tryz.prog := .of2 Tb57 B57 (fun _ _ => true) F_impl_CrossV fun a0 a1 _ => (r_impl_CrossV a0 a1).trans (u_impl_CrossV a0 a1)
noncomputable def B56 : Bod Tryz.prog := ⟨56, Tryz.f56, Tryz.f56.body.getD .skip, Tryz.func56, by kernel_rfl, by kernel_rfl, Loops.no _ _⟩
noncomputable def Tb56 : Tb Tryz.prog := { T := [Y2, Y25, Y27], mix := mix, Es := [E_impl_AddI, ET_impl_MulI], Bs := [], d := 1 }
noncomputable def t_impl_DotV (a0 : Vec) (a1 : Vec) : Tr (Iv) :=
  .leaf (F_impl_AddI (F_impl_AddI (F_impl_MulI a0.x a1.x) (F_impl_MulI a0.y a1.y)) (F_impl_MulI a0.z a1.z))
theorem r_impl_DotV (a0 : Vec) (a1 : Vec) : Tb56.run B56 [enc a0, enc a1] (Iv) = (t_impl_DotV a0 a1).opt := by kernel_rfl
noncomputable def F_impl_DotV : Vec → Vec → Iv := fun a0 a1 => (t_impl_DotV a0 a1).get
theorem u_impl_DotV (a0 : Vec) (a1 : Vec) : (t_impl_DotV a0 a1).opt = some (F_impl_DotV a0 a1) := Tr.tot_get (by kernel_rfl)
noncomputable def E_impl_DotV : Ent Tryz.prog := .of2 Tb56 B56 (fun _ _ => true) F_impl_DotV fun a0 a1 _ => (r_impl_DotV a0 a1).trans (u_impl_DotV a0 a1)
noncomputable def Y86 : TyE Tryz.prog := ⟨86, 1, (.slice 30 2), [.nils], false, by kernel_rfl, by kernel_rfl, by kernel_rfl, by kernel_rfl, by kernel_rfl, by kernel_rfl⟩
noncomputable def B53 : Bod Tryz.prog := ⟨53, Tryz.f53, Tryz.f53.body.getD .skip, Tryz.func53, by kernel_rfl, by kernel_rfl, Loops.no _ _⟩
noncomputable def B20 : Bod Tryz.prog := ⟨20, Tryz.f20, Tryz.f20.body.getD .skip, Tryz.func20, by kernel_rfl, by kernel_rfl, Loops.no _ _⟩
noncomputable def Tb20 : Tb Tryz.prog := { T := [Y2, Y30, Y86], mix := mix, Es := [E_impl_ValidPoint, E_impl_vectorOf, E_impl_LessI, E_impl_Integer, E_impl_DotV, E_impl_CrossV], Bs := [B53], d := 8 }
noncomputable def t_impl_SideOf (a0 : Point) (a1 : Point) (a2 : Point) : Tr (T2 I64 I64) :=
  .br (!(F_impl_ValidPoint a0)) (.leaf ⟨⟨0, rfl⟩, ⟨1, rfl⟩⟩) (.br (!(F_impl_ValidPoint a1)) (.leaf ⟨⟨0, rfl⟩, ⟨1, rfl⟩⟩) (.br (!(F_impl_ValidPoint a2)) (.leaf ⟨⟨0, rfl⟩, ⟨1, rfl⟩⟩) (.leaf ⟨(F_impl_LessI (F_impl_Integer ⟨0, rfl⟩) (F_impl_DotV (F_impl_CrossV (F_impl_vectorOf a0) (F_impl_vectorOf a1)) (F_impl_vectorOf a2))), ⟨0, rfl⟩⟩)))
theorem r_impl_SideOf (a0 : Point) (a1 : Point) (a2 : Point) : Tb20.run B20 [enc a0, enc a1, enc a2] (T2 I64 I64) = (t_impl_SideOf a0 a1 a2).opt := by kernel_rfl
noncomputable def F_impl_SideOf : Point → Point → Point → T2 I64 I64 := fun a0 a1 a2 => (t_impl_SideOf a0 a1 a2).get
theorem u_impl_SideOf (a0 : Point) (a1 : Point) (a2 : Point) : (t_impl_SideOf a0 a1 a2).opt = some (F_impl_SideOf a0 a1 a2) := Tr.tot_get (by kernel_rfl)
noncomputable def E_impl_SideOf : Ent Tryz.prog := .of3 Tb20 B20 (fun _ _ _ => true) F_impl_SideOf fun a0 a1 a2 _ => (r_impl_SideOf a0 a1 a2).trans (u_impl_SideOf a0 a1 a2)
noncomputable def B4 : Bod Tryz.prog := ⟨4, Tryz.f4, Tryz.f4.body.getD .skip, Tryz.func4, by kernel_rfl, by kernel_rfl, Loops.no _ _⟩
noncomputable def Tb4 : Tb Tryz.prog := { T := [Y23], mix := mix, Es := [E_laws_toPoint, E_spec_SideOf, E_impl_SideOf], Bs := [], d := 1 }
noncomputable def t_laws_FnExactSideOf (a0 : Point) (a1 : Point) (a2 : Point) : Tr (Bool) :=
  let c4 := F_spec_SideOf (F_laws_toPoint a0) (F_laws_toPoint a1) (F_laws_toPoint a2); let c8 := F_impl_SideOf (F_laws_toPoint a0) (F_laws_toPoint a1) (F_laws_toPoint a2); .br (c8.a.val != c4.a.val) (.leaf false) (.br (c8.b.val != c4.b.val) (.leaf false) (.leaf true))
theorem r_laws_FnExactSideOf (a0 : Point) (a1 : Point) (a2 : Point) : Tb4.run B4 [enc a0, enc a1, enc a2] (Bool) = (t_laws_FnExactSideOf a0 a1 a2).opt := by kernel_rfl
noncomputable def F_laws_FnExactSideOf : Point → Point → Point → Bool := fun a0 a1 a2 => (t_laws_FnExactSideOf a0 a1 a2).get
theorem u_laws_FnExactSideOf (a0 : Point) (a1 : Point) (a2 : Point) : (t_laws_FnExactSideOf a0 a1 a2).opt = some (F_laws_FnExactSideOf a0 a1 a2) := Tr.tot_get (by kernel_rfl)
noncomputable def E_laws_FnExactSideOf : Ent Tryz.prog := .of3 Tb4 B4 (fun _ _ _ => true) F_laws_FnExactSideOf fun a0 a1 a2 _ => (r_laws_FnExactSideOf a0 a1 a2).trans (u_laws_FnExactSideOf a0 a1 a2)
noncomputable def Y37 : TyE Tryz.prog := ⟨37, 2, (.struct [(0, 2, 1), (1, 2, 1)]), [.i64 ⟨0, rfl⟩, .i64 ⟨0, rfl⟩], true, by kernel_rfl, by kernel_rfl, by kernel_rfl, by kernel_rfl, by kernel_rfl, by kernel_rfl⟩
noncomputable def B36 : Bod Tryz.prog := ⟨36, Tryz.f36, Tryz.f36.body.getD .skip, Tryz.func36, by kernel_rfl, by kernel_rfl, Loops.no _ _⟩
noncomputable def Tb36 : Tb Tryz.prog := { T := [Y2, Y25, Y37], mix := mix, Es := [], Bs := [], d := 1 }
noncomputable def t_laws_toInterval (a0 : Iv) : Tr (Iv) :=
  .leaf a0
theorem r_laws_toInterval (a0 : Iv) : Tb36.run B36 [enc a0] (Iv) = (t_laws_toInterval a0).opt := by kernel_rfl
noncomputable def F_laws_toInterval : Iv → Iv := fun a0 => (t_laws_toInterval a0).get
theorem u_laws_toInterval (a0 : Iv) : (t_laws_toInterval a0).opt = some (F_laws_toInterval a0) := Tr.tot_get (by kernel_rfl)
noncomputable def E_laws_toInterval : Ent Tryz.prog := .of1 Tb36 B36 (fun _ => true) F_laws_toInterval fun a0 _ => (r_laws_toInterval a0).trans (u_laws_toInterval a0)
noncomputable def Y39 : TyE Tryz.prog := ⟨39, 6, (.struct [(0, 37, 2), (2, 37, 2), (4, 37, 2)]), [.i64 ⟨0, rfl⟩, .i64 ⟨0, rfl⟩, .i64 ⟨0, rfl⟩, .i64 ⟨0, rfl⟩, .i64 ⟨0, rfl⟩, .i64 ⟨0, rfl⟩], false, by kernel_rfl, by kernel_rfl, by kernel_rfl, by kernel_rfl, by kernel_rfl, by kernel_rfl⟩
noncomputable def B22 : Bod Tryz.prog := ⟨22, Tryz.f22, Tryz.f22.body.getD .skip, Tryz.func22, by kernel_rfl, by kernel_rfl, Loops.no _ _⟩
noncomputable def Tb22 : Tb Tryz.prog := { T := [Y2, Y25, Y27, Y37, Y39], mix := mix, Es := [E_laws_toInterval], Bs := [], d := 1 }
noncomputable def t_laws_toVec (a0 : Vec) : Tr (Vec) :=
  .leaf ⟨(F_laws_toInterval a0.x), (F_laws_toInterval a0.y), (F_laws_toInterval a0.z)⟩
theorem r_laws_toVec (a0 : Vec) : Tb22.run B22 [enc a0] (Vec) = (t_laws_toVec a0).opt := by kernel_rfl
noncomputable def F_laws_toVec : Vec → Vec := fun a0 => (t_laws_toVec a0).get
theorem u_laws_toVec (a0 : Vec) : (t_laws_toVec a0).opt = some (F_laws_toVec a0) := Tr.tot_get (by kernel_rfl)
noncomputable def E_laws_toVec : Ent Tryz.prog := .of1 Tb22 B22 (fun _ => true) F_laws_toVec fun a0 _ => (r_laws_toVec a0).trans (u_laws_toVec a0)
noncomputable def B59 : Bod Tryz.prog := ⟨59, Tryz.f59, Tryz.f59.body.getD .skip, Tryz.func59, by kernel_rfl, by kernel_rfl, Loops.no _ _⟩
noncomputable def Tb59 : Tb Tryz.prog := { T := [Y2, Y25, Y27], mix := mix, Es := [E_spec_NormV], Bs := [], d := 1 }
noncomputable def t_spec_l15Flat (a0 : Vec) : Tr (Iv) :=
  .leaf (F_spec_NormV ⟨a0.x, a0.y, ⟨⟨0, rfl⟩, ⟨0, rfl⟩⟩⟩)
theorem r_spec_l15Flat (a0 : Vec) : Tb59.run B59 [enc a0] (Iv) = (t_spec_l15Flat a0).opt := by kernel_rfl
noncomputable def F_spec_l15Flat : Vec → Iv := fun a0 => (t_spec_l15Flat a0).get
theorem u_spec_l15Flat (a0 : Vec) : (t_spec_l15Flat a0).opt = some (F_spec_l15Flat a0) := Tr.tot_get (by kernel_rfl)
noncomputable def E_spec_l15Flat : Ent Tryz.prog := .of1 Tb59 B59 (fun _ => true) F_spec_l15Flat fun a0 _ => (r_spec_l15Flat a0).trans (u_spec_l15Flat a0)
noncomputable def B21 : Bod Tryz.prog := ⟨21, Tryz.f21, Tryz.f21.body.getD .skip, Tryz.func21, by kernel_rfl, by kernel_rfl, Loops.no _ _⟩
noncomputable def Tb21 : Tb Tryz.prog := { T := [Y2, Y25, Y27], mix := mix, Es := [E_spec_DirectionI, E_spec_l15Flat, E_spec_IsWhole], Bs := [], d := 1 }
noncomputable def t_spec_PositionOf (a0 : Vec) : Tr (T3 Iv Iv I64) :=
  let c2 := F_spec_DirectionI a0.z (F_spec_l15Flat a0); .br (F_spec_IsWhole c2) (.leaf ⟨⟨⟨0, rfl⟩, ⟨0, rfl⟩⟩, ⟨⟨0, rfl⟩, ⟨0, rfl⟩⟩, ⟨9, rfl⟩⟩) (.leaf ⟨c2, (F_spec_DirectionI a0.y a0.x), ⟨0, rfl⟩⟩)
theorem r_spec_PositionOf (a0 : Vec) : Tb21.run B21 [enc a0] (T3 Iv Iv I64) = (t_spec_PositionOf a0).opt := by kernel_rfl
noncomputable def F_spec_PositionOf : Vec → T3 Iv Iv I64 := fun a0 => (t_spec_PositionOf a0).get
theorem u_spec_PositionOf (a0 : Vec) : (t_spec_PositionOf a0).opt = some (F_spec_PositionOf a0) := Tr.tot_get (by kernel_rfl)
noncomputable def E_spec_PositionOf : Ent Tryz.prog := .of1 Tb21 B21 (fun _ => true) F_spec_PositionOf fun a0 _ => (r_spec_PositionOf a0).trans (u_spec_PositionOf a0)
noncomputable def B63 : Bod Tryz.prog := ⟨63, Tryz.f63, Tryz.f63.body.getD .skip, Tryz.func63, by kernel_rfl, by kernel_rfl, Loops.no _ _⟩
noncomputable def Tb63 : Tb Tryz.prog := { T := [Y2, Y25, Y27], mix := mix, Es := [ET_impl_NormV], Bs := [], d := 1 }
noncomputable def t_impl_fromAxis (a0 : Vec) : Tr (Iv) :=
  .leaf (F_impl_NormV ⟨a0.x, a0.y, ⟨⟨0, rfl⟩, ⟨0, rfl⟩⟩⟩)
theorem r_impl_fromAxis (a0 : Vec) : Tb63.run B63 [enc a0] (Iv) = (t_impl_fromAxis a0).opt := by kernel_rfl
noncomputable def F_impl_fromAxis : Vec → Iv := fun a0 => (t_impl_fromAxis a0).get
theorem u_impl_fromAxis (a0 : Vec) : (t_impl_fromAxis a0).opt = some (F_impl_fromAxis a0) := Tr.tot_get (by kernel_rfl)
noncomputable def E_impl_fromAxis : Ent Tryz.prog := .of1 Tb63 B63 (fun _ => true) F_impl_fromAxis fun a0 _ => (r_impl_fromAxis a0).trans (u_impl_fromAxis a0)
noncomputable def B61 : Bod Tryz.prog := ⟨61, Tryz.f61, Tryz.f61.body.getD .skip, Tryz.func61, by kernel_rfl, by kernel_rfl, Loops.no _ _⟩
noncomputable def Tb61 : Tb Tryz.prog := { T := [Y2, Y25], mix := mix, Es := [E_impl_IsWhole], Bs := [], d := 1 }
noncomputable def t_impl_knownI (a0 : Iv) : Tr (T2 Iv I64) :=
  .br (F_impl_IsWhole a0) (.leaf ⟨⟨⟨0, rfl⟩, ⟨0, rfl⟩⟩, ⟨9, rfl⟩⟩) (.leaf ⟨a0, ⟨0, rfl⟩⟩)
theorem r_impl_knownI (a0 : Iv) : Tb61.run B61 [enc a0] (T2 Iv I64) = (t_impl_knownI a0).opt := by kernel_rfl
noncomputable def F_impl_knownI : Iv → T2 Iv I64 := fun a0 => (t_impl_knownI a0).get
theorem u_impl_knownI (a0 : Iv) : (t_impl_knownI a0).opt = some (F_impl_knownI a0) := Tr.tot_get (by kernel_rfl)
noncomputable def E_impl_knownI : Ent Tryz.prog := .of1 Tb61 B61 (fun _ => true) F_impl_knownI fun a0 _ => (r_impl_knownI a0).trans (u_impl_knownI a0)
noncomputable def B23 : Bod Tryz.prog := ⟨23, Tryz.f23, Tryz.f23.body.getD .skip, Tryz.func23, by kernel_rfl, by kernel_rfl, Loops.no _ _⟩
noncomputable def Tb23 : Tb Tryz.prog := { T := [Y2, Y25, Y27], mix := mix, Es := [E_impl_knownI, E_impl_DirectionI, E_impl_fromAxis], Bs := [], d := 1 }
noncomputable def t_impl_PositionOf (a0 : Vec) : Tr (T3 Iv Iv I64) :=
  let c3 := F_impl_knownI (F_impl_DirectionI a0.z (F_impl_fromAxis a0)); .br (c3.b.val != 0) (.leaf ⟨⟨⟨0, rfl⟩, ⟨0, rfl⟩⟩, ⟨⟨0, rfl⟩, ⟨0, rfl⟩⟩, c3.b⟩) (.leaf ⟨c3.a, (F_impl_DirectionI a0.y a0.x), ⟨0, rfl⟩⟩)
theorem r_impl_PositionOf (a0 : Vec) : Tb23.run B23 [enc a0] (T3 Iv Iv I64) = (t_impl_PositionOf a0).opt := by kernel_rfl
noncomputable def F_impl_PositionOf : Vec → T3 Iv Iv I64 := fun a0 => (t_impl_PositionOf a0).get
theorem u_impl_PositionOf (a0 : Vec) : (t_impl_PositionOf a0).opt = some (F_impl_PositionOf a0) := Tr.tot_get (by kernel_rfl)
noncomputable def E_impl_PositionOf : Ent Tryz.prog := .of1 Tb23 B23 (fun _ => true) F_impl_PositionOf fun a0 _ => (r_impl_PositionOf a0).trans (u_impl_PositionOf a0)
noncomputable def B5 : Bod Tryz.prog := ⟨5, Tryz.f5, Tryz.f5.body.getD .skip, Tryz.func5, by kernel_rfl, by kernel_rfl, Loops.no _ _⟩
noncomputable def Tb5 : Tb Tryz.prog := { T := [Y2, Y25, Y39], mix := mix, Es := [E_spec_PositionOf, E_laws_toVec, E_impl_PositionOf, E_laws_eqInterval], Bs := [], d := 1 }
noncomputable def t_laws_FnExactPositionOf (a0 : Vec) : Tr (Bool) :=
  let c2 := F_spec_PositionOf (F_laws_toVec a0); let c4 := F_impl_PositionOf (F_laws_toVec a0); .br (!(F_laws_eqInterval c4.a c2.a)) (.leaf false) (.br (!(F_laws_eqInterval c4.b c2.b)) (.leaf false) (.br (c4.c.val != c2.c.val) (.leaf false) (.leaf true)))
theorem r_laws_FnExactPositionOf (a0 : Vec) : Tb5.run B5 [enc a0] (Bool) = (t_laws_FnExactPositionOf a0).opt := by kernel_rfl
noncomputable def F_laws_FnExactPositionOf : Vec → Bool := fun a0 => (t_laws_FnExactPositionOf a0).get
theorem u_laws_FnExactPositionOf (a0 : Vec) : (t_laws_FnExactPositionOf a0).opt = some (F_laws_FnExactPositionOf a0) := Tr.tot_get (by kernel_rfl)
noncomputable def E_laws_FnExactPositionOf : Ent Tryz.prog := .of1 Tb5 B5 (fun _ => true) F_laws_FnExactPositionOf fun a0 _ => (r_laws_FnExactPositionOf a0).trans (u_laws_FnExactPositionOf a0)
noncomputable def B70 : Bod Tryz.prog := ⟨70, Tryz.f70, Tryz.f70.body.getD .skip, Tryz.func70, by kernel_rfl, by kernel_rfl, Loops.no _ _⟩
noncomputable def Tb70 : Tb Tryz.prog := { T := [Y2, Y25], mix := mix, Es := [E_spec_IsWhole], Bs := [], d := 1 }
noncomputable def t_spec_l15Known (a0 : Iv) : Tr (T2 Iv I64) :=
  .br (F_spec_IsWhole a0) (.leaf ⟨⟨⟨0, rfl⟩, ⟨0, rfl⟩⟩, ⟨9, rfl⟩⟩) (.leaf ⟨a0, ⟨0, rfl⟩⟩)
theorem r_spec_l15Known (a0 : Iv) : Tb70.run B70 [enc a0] (T2 Iv I64) = (t_spec_l15Known a0).opt := by kernel_rfl
noncomputable def F_spec_l15Known : Iv → T2 Iv I64 := fun a0 => (t_spec_l15Known a0).get
theorem u_spec_l15Known (a0 : Iv) : (t_spec_l15Known a0).opt = some (F_spec_l15Known a0) := Tr.tot_get (by kernel_rfl)
noncomputable def E_spec_l15Known : Ent Tryz.prog := .of1 Tb70 B70 (fun _ => true) F_spec_l15Known fun a0 _ => (r_spec_l15Known a0).trans (u_spec_l15Known a0)
noncomputable def B25 : Bod Tryz.prog := ⟨25, Tryz.f25, Tryz.f25.body.getD .skip, Tryz.func25, by kernel_rfl, by kernel_rfl, Loops.no _ _⟩
noncomputable def Tb25 : Tb Tryz.prog := { T := [Y2, Y25, Y30], mix := mix, Es := [E_spec_l11Ok, E_spec_DirectionI, ET_spec_RadiansOf, E_spec_l11Wrap, E_spec_MulI, E_spec_CosI, E_spec_SinI, E_spec_SubI, E_spec_l15Known], Bs := [], d := 1 }
noncomputable def t_spec_AzimuthTo (a0 : Point) (a1 : Point) : Tr (T2 Iv I64) :=
  .br (!(F_spec_l11Ok a0)) (.leaf ⟨⟨⟨0, rfl⟩, ⟨0, rfl⟩⟩, ⟨1, rfl⟩⟩) (.br (!(F_spec_l11Ok a1)) (.leaf ⟨⟨⟨0, rfl⟩, ⟨0, rfl⟩⟩, ⟨1, rfl⟩⟩) (let c3 := F_spec_RadiansOf a0.lat; let c4 := F_spec_RadiansOf a1.lat; let c7 := F_spec_RadiansOf (F_spec_l11Wrap (Rng.w .i64 (a1.lon.val - a0.lon.val))); let c21 := F_spec_l15Known (F_spec_DirectionI (F_spec_MulI (F_spec_CosI c4) (F_spec_SinI c7)) (F_spec_SubI (F_spec_MulI (F_spec_CosI c3) (F_spec_SinI c4)) (F_spec_MulI (F_spec_MulI (F_spec_SinI c3) (F_spec_CosI c4)) (F_spec_CosI c7)))); .leaf ⟨c21.a, c21.b⟩))
theorem r_spec_AzimuthTo (a0 : Point) (a1 : Point) : Tb25.run B25 [enc a0, enc a1] (T2 Iv I64) = (t_spec_AzimuthTo a0 a1).opt := by kernel_rfl
noncomputable def F_spec_AzimuthTo : Point → Point → T2 Iv I64 := fun a0 a1 => (t_spec_AzimuthTo a0 a1).get
theorem u_spec_AzimuthTo (a0 : Point) (a1 : Point) : (t_spec_AzimuthTo a0 a1).opt = some (F_spec_AzimuthTo a0 a1) := Tr.tot_get (by kernel_rfl)
noncomputable def E_spec_AzimuthTo : Ent Tryz.prog := .of2 Tb25 B25 (fun _ _ => true) F_spec_AzimuthTo fun a0 a1 _ => (r_spec_AzimuthTo a0 a1).trans (u_spec_AzimuthTo a0 a1)
noncomputable def B71 : Bod Tryz.prog := ⟨71, Tryz.f71, Tryz.f71.body.getD .skip, Tryz.func71, by kernel_rfl, by kernel_rfl, Loops.no _ _⟩
noncomputable def Tb71 : Tb Tryz.prog := { T := [Y30], mix := mix, Es := [E_impl_ValidPoint], Bs := [], d := 1 }
noncomputable def t_impl_areValid (a0 : Point) (a1 : Point) : Tr (Bool) :=
  .br (F_impl_ValidPoint a0) (.leaf (F_impl_ValidPoint a1)) (.leaf false)
theorem r_impl_areValid (a0 : Point) (a1 : Point) : Tb71.run B71 [enc a0, enc a1] (Bool) = (t_impl_areValid a0 a1).opt := by kernel_rfl
noncomputable def F_impl_areValid : Point → Point → Bool := fun a0 a1 => (t_impl_areValid a0 a1).get
theorem u_impl_areValid (a0 : Point) (a1 : Point) : (t_impl_areValid a0 a1).opt = some (F_impl_areValid a0 a1) := Tr.tot_get (by kernel_rfl)
noncomputable def E_impl_areValid : Ent Tryz.prog := .of2 Tb71 B71 (fun _ _ => true) F_impl_areValid fun a0 a1 _ => (r_impl_areValid a0 a1).trans (u_impl_areValid a0 a1)
noncomputable def B74 : Bod Tryz.prog := ⟨74, Tryz.f74, Tryz.f74.body.getD .skip, Tryz.func74, by kernel_rfl, by kernel_rfl, Loops.no _ _⟩
noncomputable def Tb74 : Tb Tryz.prog := { T := [Y2, Y25, Y30], mix := mix, Es := [ET_impl_RadiansOf, E_impl_WrapLon], Bs := [], d := 1 }
noncomputable def t_impl_differenceOf (a0 : Point) (a1 : Point) : Tr (Iv) :=
  .leaf (F_impl_RadiansOf (F_impl_WrapLon (Rng.w .i64 (a1.lon.val - a0.lon.val))))
theorem r_impl_differenceOf (a0 : Point) (a1 : Point) : Tb74.run B74 [enc a0, enc a1] (Iv) = (t_impl_differenceOf a0 a1).opt := by kernel_rfl
noncomputable def F_impl_differenceOf : Point → Point → Iv := fun a0 a1 => (t_impl_differenceOf a0 a1).get
theorem u_impl_differenceOf (a0 : Point) (a1 : Point) : (t_impl_differenceOf a0 a1).opt = some (F_impl_differenceOf a0 a1) := Tr.tot_get (by kernel_rfl)
noncomputable def E_impl_differenceOf : Ent Tryz.prog := .of2 Tb74 B74 (fun _ _ => true) F_impl_differenceOf fun a0 a1 _ => (r_impl_differenceOf a0 a1).trans (u_impl_differenceOf a0 a1)
noncomputable def B72 : Bod Tryz.prog := ⟨72, Tryz.f72, Tryz.f72.body.getD .skip, Tryz.func72, by kernel_rfl, by kernel_rfl, Loops.no _ _⟩
noncomputable def Tb72 : Tb Tryz.prog := { T := [Y2, Y25, Y27], mix := mix, Es := [E_impl_AddI, E_impl_SinI, E_impl_CosI, E_impl_SubI, ET_impl_MulI], Bs := [], d := 1 }
noncomputable def t_impl_localOf (a0 : Iv) (a1 : Iv) (a2 : Iv) : Tr (Vec) :=
  .leaf ⟨(F_impl_MulI (F_impl_CosI a1) (F_impl_SinI a2)), (F_impl_SubI (F_impl_MulI (F_impl_CosI a0) (F_impl_SinI a1)) (F_impl_MulI (F_impl_MulI (F_impl_SinI a0) (F_impl_CosI a1)) (F_impl_CosI a2))), (F_impl_AddI (F_impl_MulI (F_impl_SinI a0) (F_impl_SinI a1)) (F_impl_MulI (F_impl_MulI (F_impl_CosI a0) (F_impl_CosI a1)) (F_impl_CosI a2)))⟩
theorem r_impl_localOf (a0 : Iv) (a1 : Iv) (a2 : Iv) : Tb72.run B72 [enc a0, enc a1, enc a2] (Vec) = (t_impl_localOf a0 a1 a2).opt := by kernel_rfl
noncomputable def F_impl_localOf : Iv → Iv → Iv → Vec := fun a0 a1 a2 => (t_impl_localOf a0 a1 a2).get
theorem u_impl_localOf (a0 : Iv) (a1 : Iv) (a2 : Iv) : (t_impl_localOf a0 a1 a2).opt = some (F_impl_localOf a0 a1 a2) := Tr.tot_get (by kernel_rfl)
noncomputable def E_impl_localOf : Ent Tryz.prog := .of3 Tb72 B72 (fun _ _ _ => true) F_impl_localOf fun a0 a1 a2 _ => (r_impl_localOf a0 a1 a2).trans (u_impl_localOf a0 a1 a2)
noncomputable def B26 : Bod Tryz.prog := ⟨26, Tryz.f26, Tryz.f26.body.getD .skip, Tryz.func26, by kernel_rfl, by kernel_rfl, Loops.no _ _⟩
noncomputable def Tb26 : Tb Tryz.prog := { T := [Y2, Y25, Y27, Y30], mix := mix, Es := [E_impl_knownI, E_impl_DirectionI, E_impl_areValid, E_impl_localOf, E_impl_LatOf, E_impl_differenceOf], Bs := [], d := 1 }
noncomputable def t_impl_AzimuthTo (a0 : Point) (a1 : Point) : Tr (T2 Iv I64) :=
  .br (!(F_impl_areValid a0 a1)) (.leaf ⟨⟨⟨0, rfl⟩, ⟨0, rfl⟩⟩, ⟨1, rfl⟩⟩) (let c5 := F_impl_localOf (F_impl_LatOf a0) (F_impl_LatOf a1) (F_impl_differenceOf a0 a1); let c7 := F_impl_knownI (F_impl_DirectionI c5.x c5.y); .leaf ⟨c7.a, c7.b⟩)
theorem r_impl_AzimuthTo (a0 : Point) (a1 : Point) : Tb26.run B26 [enc a0, enc a1] (T2 Iv I64) = (t_impl_AzimuthTo a0 a1).opt := by kernel_rfl
noncomputable def F_impl_AzimuthTo : Point → Point → T2 Iv I64 := fun a0 a1 => (t_impl_AzimuthTo a0 a1).get
theorem u_impl_AzimuthTo (a0 : Point) (a1 : Point) : (t_impl_AzimuthTo a0 a1).opt = some (F_impl_AzimuthTo a0 a1) := Tr.tot_get (by kernel_rfl)
noncomputable def E_impl_AzimuthTo : Ent Tryz.prog := .of2 Tb26 B26 (fun _ _ => true) F_impl_AzimuthTo fun a0 a1 _ => (r_impl_AzimuthTo a0 a1).trans (u_impl_AzimuthTo a0 a1)
noncomputable def B6 : Bod Tryz.prog := ⟨6, Tryz.f6, Tryz.f6.body.getD .skip, Tryz.func6, by kernel_rfl, by kernel_rfl, Loops.no _ _⟩
noncomputable def Tb6 : Tb Tryz.prog := { T := [Y2, Y23, Y25], mix := mix, Es := [E_laws_toPoint, E_laws_eqInterval, E_spec_AzimuthTo, E_impl_AzimuthTo], Bs := [], d := 1 }
noncomputable def t_laws_FnExactAzimuthTo (a0 : Point) (a1 : Point) : Tr (Bool) :=
  let c3 := F_spec_AzimuthTo (F_laws_toPoint a0) (F_laws_toPoint a1); let c6 := F_impl_AzimuthTo (F_laws_toPoint a0) (F_laws_toPoint a1); .br (!(F_laws_eqInterval c6.a c3.a)) (.leaf false) (.br (c6.b.val != c3.b.val) (.leaf false) (.leaf true))
theorem r_laws_FnExactAzimuthTo (a0 : Point) (a1 : Point) : Tb6.run B6 [enc a0, enc a1] (Bool) = (t_laws_FnExactAzimuthTo a0 a1).opt := by kernel_rfl
noncomputable def F_laws_FnExactAzimuthTo : Point → Point → Bool := fun a0 a1 => (t_laws_FnExactAzimuthTo a0 a1).get
theorem u_laws_FnExactAzimuthTo (a0 : Point) (a1 : Point) : (t_laws_FnExactAzimuthTo a0 a1).opt = some (F_laws_FnExactAzimuthTo a0 a1) := Tr.tot_get (by kernel_rfl)
noncomputable def E_laws_FnExactAzimuthTo : Ent Tryz.prog := .of2 Tb6 B6 (fun _ _ => true) F_laws_FnExactAzimuthTo fun a0 a1 _ => (r_laws_FnExactAzimuthTo a0 a1).trans (u_laws_FnExactAzimuthTo a0 a1)
noncomputable def B27 : Bod Tryz.prog := ⟨27, Tryz.f27, Tryz.f27.body.getD .skip, Tryz.func27, by kernel_rfl, by kernel_rfl, Loops.no _ _⟩
noncomputable def Tb27 : Tb Tryz.prog := { T := [Y2, Y25, Y27, Y30], mix := mix, Es := [E_spec_l11Ok, E_spec_l15Vec, E_spec_Integer, E_spec_DotV, E_spec_CrossV, E_spec_DirectionI, E_spec_MulI, E_spec_l15Known, E_spec_AddI], Bs := [], d := 1 }
noncomputable def t_spec_ExcessOf (a0 : Point) (a1 : Point) (a2 : Point) : Tr (T2 Iv I64) :=
  .br (!(F_spec_l11Ok a0)) (.leaf ⟨⟨⟨0, rfl⟩, ⟨0, rfl⟩⟩, ⟨1, rfl⟩⟩) (.br (!(F_spec_l11Ok a1)) (.leaf ⟨⟨⟨0, rfl⟩, ⟨0, rfl⟩⟩, ⟨1, rfl⟩⟩) (.br (!(F_spec_l11Ok a2)) (.leaf ⟨⟨⟨0, rfl⟩, ⟨0, rfl⟩⟩, ⟨1, rfl⟩⟩) (let c4 := F_spec_l15Vec a0; let c5 := F_spec_l15Vec a1; let c6 := F_spec_l15Vec a2; let c19 := F_spec_l15Known (F_spec_MulI (F_spec_Integer ⟨2, rfl⟩) (F_spec_DirectionI (F_spec_DotV c4 (F_spec_CrossV c5 c6)) (F_spec_AddI (F_spec_AddI (F_spec_AddI (F_spec_Integer ⟨1, rfl⟩) (F_spec_DotV c4 c5)) (F_spec_DotV c5 c6)) (F_spec_DotV c6 c4)))); .leaf ⟨c19.a, c19.b⟩)))
theorem r_spec_ExcessOf (a0 : Point) (a1 : Point) (a2 : Point) : Tb27.run B27 [enc a0, enc a1, enc a2] (T2 Iv I64) = (t_spec_ExcessOf a0 a1 a2).opt := by kernel_rfl
noncomputable def F_spec_ExcessOf : Point → Point → Point → T2 Iv I64 := fun a0 a1 a2 => (t_spec_ExcessOf a0 a1 a2).get
theorem u_spec_ExcessOf (a0 : Point) (a1 : Point) (a2 : Point) : (t_spec_ExcessOf a0 a1 a2).opt = some (F_spec_ExcessOf a0 a1 a2) := Tr.tot_get (by kernel_rfl)
noncomputable def E_spec_ExcessOf : Ent Tryz.prog := .of3 Tb27 B27 (fun _ _ _ => true) F_spec_ExcessOf fun a0 a1 a2 _ => (r_spec_ExcessOf a0 a1 a2).trans (u_spec_ExcessOf a0 a1 a2)
noncomputable def B77 : Bod Tryz.prog := ⟨77, Tryz.f77, Tryz.f77.body.getD .skip, Tryz.func77, by kernel_rfl, by kernel_rfl, Loops.no _ _⟩
noncomputable def Tb77 : Tb Tryz.prog := { T := [Y2, Y25], mix := mix, Es := [E_impl_Integer, ET_impl_MulI], Bs := [], d := 1 }
noncomputable def t_impl_times (a0 : I64) (a1 : Iv) : Tr (Iv) :=
  .leaf (F_impl_MulI (F_impl_Integer a0) a1)
theorem r_impl_times (a0 : I64) (a1 : Iv) : Tb77.run B77 [enc a0, enc a1] (Iv) = (t_impl_times a0 a1).opt := by kernel_rfl
noncomputable def F_impl_times : I64 → Iv → Iv := fun a0 a1 => (t_impl_times a0 a1).get
theorem u_impl_times (a0 : I64) (a1 : Iv) : (t_impl_times a0 a1).opt = some (F_impl_times a0 a1) := Tr.tot_get (by kernel_rfl)
noncomputable def E_impl_times : Ent Tryz.prog := .of2 Tb77 B77 (fun _ _ => true) F_impl_times fun a0 a1 _ => (r_impl_times a0 a1).trans (u_impl_times a0 a1)
noncomputable def B28 : Bod Tryz.prog := ⟨28, Tryz.f28, Tryz.f28.body.getD .skip, Tryz.func28, by kernel_rfl, by kernel_rfl, Loops.no _ _⟩
noncomputable def Tb28 : Tb Tryz.prog := { T := [Y2, Y25, Y27, Y30, Y86], mix := mix, Es := [E_impl_ValidPoint, E_impl_vectorOf, E_impl_Integer, E_impl_DotV, E_impl_CrossV, E_impl_knownI, E_impl_DirectionI, E_impl_AddI, E_impl_times], Bs := [B53], d := 8 }
noncomputable def t_impl_ExcessOf (a0 : Point) (a1 : Point) (a2 : Point) : Tr (T2 Iv I64) :=
  .br (!(F_impl_ValidPoint a0)) (.leaf ⟨⟨⟨0, rfl⟩, ⟨0, rfl⟩⟩, ⟨1, rfl⟩⟩) (.br (!(F_impl_ValidPoint a1)) (.leaf ⟨⟨⟨0, rfl⟩, ⟨0, rfl⟩⟩, ⟨1, rfl⟩⟩) (.br (!(F_impl_ValidPoint a2)) (.leaf ⟨⟨⟨0, rfl⟩, ⟨0, rfl⟩⟩, ⟨1, rfl⟩⟩) (let c4 := F_impl_vectorOf a0; let c5 := F_impl_vectorOf a1; let c6 := F_impl_vectorOf a2; let c18 := F_impl_knownI (F_impl_times ⟨2, rfl⟩ (F_impl_DirectionI (F_impl_DotV c4 (F_impl_CrossV c5 c6)) (F_impl_AddI (F_impl_AddI (F_impl_AddI (F_impl_Integer ⟨1, rfl⟩) (F_impl_DotV c4 c5)) (F_impl_DotV c5 c6)) (F_impl_DotV c6 c4)))); .leaf ⟨c18.a, c18.b⟩)))
theorem r_impl_ExcessOf (a0 : Point) (a1 : Point) (a2 : Point) : Tb28.run B28 [enc a0, enc a1, enc a2] (T2 Iv I64) = (t_impl_ExcessOf a0 a1 a2).opt := by kernel_rfl
noncomputable def F_impl_ExcessOf : Point → Point → Point → T2 Iv I64 := fun a0 a1 a2 => (t_impl_ExcessOf a0 a1 a2).get
theorem u_impl_ExcessOf (a0 : Point) (a1 : Point) (a2 : Point) : (t_impl_ExcessOf a0 a1 a2).opt = some (F_impl_ExcessOf a0 a1 a2) := Tr.tot_get (by kernel_rfl)
noncomputable def E_impl_ExcessOf : Ent Tryz.prog := .of3 Tb28 B28 (fun _ _ _ => true) F_impl_ExcessOf fun a0 a1 a2 _ => (r_impl_ExcessOf a0 a1 a2).trans (u_impl_ExcessOf a0 a1 a2)
noncomputable def B7 : Bod Tryz.prog := ⟨7, Tryz.f7, Tryz.f7.body.getD .skip, Tryz.func7, by kernel_rfl, by kernel_rfl, Loops.no _ _⟩
noncomputable def Tb7 : Tb Tryz.prog := { T := [Y2, Y23, Y25], mix := mix, Es := [E_laws_toPoint, E_laws_eqInterval, E_spec_ExcessOf, E_impl_ExcessOf], Bs := [], d := 1 }
noncomputable def t_laws_FnExactExcessOf (a0 : Point) (a1 : Point) (a2 : Point) : Tr (Bool) :=
  let c4 := F_spec_ExcessOf (F_laws_toPoint a0) (F_laws_toPoint a1) (F_laws_toPoint a2); let c8 := F_impl_ExcessOf (F_laws_toPoint a0) (F_laws_toPoint a1) (F_laws_toPoint a2); .br (!(F_laws_eqInterval c8.a c4.a)) (.leaf false) (.br (c8.b.val != c4.b.val) (.leaf false) (.leaf true))
theorem r_laws_FnExactExcessOf (a0 : Point) (a1 : Point) (a2 : Point) : Tb7.run B7 [enc a0, enc a1, enc a2] (Bool) = (t_laws_FnExactExcessOf a0 a1 a2).opt := by kernel_rfl
noncomputable def F_laws_FnExactExcessOf : Point → Point → Point → Bool := fun a0 a1 a2 => (t_laws_FnExactExcessOf a0 a1 a2).get
theorem u_laws_FnExactExcessOf (a0 : Point) (a1 : Point) (a2 : Point) : (t_laws_FnExactExcessOf a0 a1 a2).opt = some (F_laws_FnExactExcessOf a0 a1 a2) := Tr.tot_get (by kernel_rfl)
noncomputable def E_laws_FnExactExcessOf : Ent Tryz.prog := .of3 Tb7 B7 (fun _ _ _ => true) F_laws_FnExactExcessOf fun a0 a1 a2 _ => (r_laws_FnExactExcessOf a0 a1 a2).trans (u_laws_FnExactExcessOf a0 a1 a2)
noncomputable def B29 : Bod Tryz.prog := ⟨29, Tryz.f29, Tryz.f29.body.getD .skip, Tryz.func29, by kernel_rfl, by kernel_rfl, Loops.no _ _⟩
noncomputable def Tb29 : Tb Tryz.prog := { T := [Y2, Y25, Y30], mix := mix, Es := [E_spec_PositionOf, E_spec_l11Ok, E_spec_l15Vec, E_spec_AddV], Bs := [], d := 1 }
noncomputable def t_spec_MidwayOf (a0 : Point) (a1 : Point) : Tr (T3 Iv Iv I64) :=
  .br (!(F_spec_l11Ok a0)) (.leaf ⟨⟨⟨0, rfl⟩, ⟨0, rfl⟩⟩, ⟨⟨0, rfl⟩, ⟨0, rfl⟩⟩, ⟨1, rfl⟩⟩) (.br (!(F_spec_l11Ok a1)) (.leaf ⟨⟨⟨0, rfl⟩, ⟨0, rfl⟩⟩, ⟨⟨0, rfl⟩, ⟨0, rfl⟩⟩, ⟨1, rfl⟩⟩) (let c6 := F_spec_PositionOf (F_spec_AddV (F_spec_l15Vec a0) (F_spec_l15Vec a1)); .leaf ⟨c6.a, c6.b, c6.c⟩))
theorem r_spec_MidwayOf (a0 : Point) (a1 : Point) : Tb29.run B29 [enc a0, enc a1] (T3 Iv Iv I64) = (t_spec_MidwayOf a0 a1).opt := by kernel_rfl
noncomputable def F_spec_MidwayOf : Point → Point → T3 Iv Iv I64 := fun a0 a1 => (t_spec_MidwayOf a0 a1).get
theorem u_spec_MidwayOf (a0 : Point) (a1 : Point) : (t_spec_MidwayOf a0 a1).opt = some (F_spec_MidwayOf a0 a1) := Tr.tot_get (by kernel_rfl)
noncomputable def E_spec_MidwayOf : Ent Tryz.prog := .of2 Tb29 B29 (fun _ _ => true) F_spec_MidwayOf fun a0 a1 _ => (r_spec_MidwayOf a0 a1).trans (u_spec_MidwayOf a0 a1)
noncomputable def B30 : Bod Tryz.prog := ⟨30, Tryz.f30, Tryz.f30.body.getD .skip, Tryz.func30, by kernel_rfl, by kernel_rfl, Loops.no _ _⟩
noncomputable def Tb30 : Tb Tryz.prog := { T := [Y2, Y25, Y30], mix := mix, Es := [E_impl_PositionOf, E_impl_vectorOf, E_impl_areValid, E_impl_AddV], Bs := [], d := 1 }
noncomputable def t_impl_MidwayOf (a0 : Point) (a1 : Point) : Tr (T3 Iv Iv I64) :=
  .br (!(F_impl_areValid a0 a1)) (.leaf ⟨⟨⟨0, rfl⟩, ⟨0, rfl⟩⟩, ⟨⟨0, rfl⟩, ⟨0, rfl⟩⟩, ⟨1, rfl⟩⟩) (let c5 := F_impl_PositionOf (F_impl_AddV (F_impl_vectorOf a0) (F_impl_vectorOf a1)); .leaf ⟨c5.a, c5.b, c5.c⟩)
theorem r_impl_MidwayOf (a0 : Point) (a1 : Point) : Tb30.run B30 [enc a0, enc a1] (T3 Iv Iv I64) = (t_impl_MidwayOf a0 a1).opt := by kernel_rfl
noncomputable def F_impl_MidwayOf : Point → Point → T3 Iv Iv I64 := fun a0 a1 => (t_impl_MidwayOf a0 a1).get
theorem u_impl_MidwayOf (a0 : Point) (a1 : Point) : (t_impl_MidwayOf a0 a1).opt = some (F_impl_MidwayOf a0 a1) := Tr.tot_get (by kernel_rfl)
noncomputable def E_impl_MidwayOf : Ent Tryz.prog := .of2 Tb30 B30 (fun _ _ => true) F_impl_MidwayOf fun a0 a1 _ => (r_impl_MidwayOf a0 a1).trans (u_impl_MidwayOf a0 a1)
noncomputable def B8 : Bod Tryz.prog := ⟨8, Tryz.f8, Tryz.f8.body.getD .skip, Tryz.func8, by kernel_rfl, by kernel_rfl, Loops.no _ _⟩
noncomputable def Tb8 : Tb Tryz.prog := { T := [Y2, Y23, Y25], mix := mix, Es := [E_laws_toPoint, E_laws_eqInterval, E_spec_MidwayOf, E_impl_MidwayOf], Bs := [], d := 1 }
noncomputable def t_laws_FnExactMidwayOf (a0 : Point) (a1 : Point) : Tr (Bool) :=
  let c3 := F_spec_MidwayOf (F_laws_toPoint a0) (F_laws_toPoint a1); let c6 := F_impl_MidwayOf (F_laws_toPoint a0) (F_laws_toPoint a1); .br (!(F_laws_eqInterval c6.a c3.a)) (.leaf false) (.br (!(F_laws_eqInterval c6.b c3.b)) (.leaf false) (.br (c6.c.val != c3.c.val) (.leaf false) (.leaf true)))
theorem r_laws_FnExactMidwayOf (a0 : Point) (a1 : Point) : Tb8.run B8 [enc a0, enc a1] (Bool) = (t_laws_FnExactMidwayOf a0 a1).opt := by kernel_rfl
noncomputable def F_laws_FnExactMidwayOf : Point → Point → Bool := fun a0 a1 => (t_laws_FnExactMidwayOf a0 a1).get
theorem u_laws_FnExactMidwayOf (a0 : Point) (a1 : Point) : (t_laws_FnExactMidwayOf a0 a1).opt = some (F_laws_FnExactMidwayOf a0 a1) := Tr.tot_get (by kernel_rfl)
noncomputable def E_laws_FnExactMidwayOf : Ent Tryz.prog := .of2 Tb8 B8 (fun _ _ => true) F_laws_FnExactMidwayOf fun a0 a1 _ => (r_laws_FnExactMidwayOf a0 a1).trans (u_laws_FnExactMidwayOf a0 a1)
noncomputable def B80 : Bod Tryz.prog := ⟨80, Tryz.f80, Tryz.f80.body.getD .skip, Tryz.func80, by kernel_rfl, by kernel_rfl, Loops.no _ _⟩
noncomputable def Tb80 : Tb Tryz.prog := { T := [Y2, Y25, Y27], mix := mix, Es := [E_spec_DotV, E_spec_CrossV, E_spec_DirectionI, E_spec_NormV], Bs := [], d := 1 }
noncomputable def t_spec_l15Angle (a0 : Vec) (a1 : Vec) : Tr (Iv) :=
  .leaf (F_spec_DirectionI (F_spec_NormV (F_spec_CrossV a0 a1)) (F_spec_DotV a0 a1))
theorem r_spec_l15Angle (a0 : Vec) (a1 : Vec) : Tb80.run B80 [enc a0, enc a1] (Iv) = (t_spec_l15Angle a0 a1).opt := by kernel_rfl
noncomputable def F_spec_l15Angle : Vec → Vec → Iv := fun a0 a1 => (t_spec_l15Angle a0 a1).get
theorem u_spec_l15Angle (a0 : Vec) (a1 : Vec) : (t_spec_l15Angle a0 a1).opt = some (F_spec_l15Angle a0 a1) := Tr.tot_get (by kernel_rfl)
noncomputable def E_spec_l15Angle : Ent Tryz.prog := .of2 Tb80 B80 (fun _ _ => true) F_spec_l15Angle fun a0 a1 _ => (r_spec_l15Angle a0 a1).trans (u_spec_l15Angle a0 a1)
noncomputable def B31 : Bod Tryz.prog := ⟨31, Tryz.f31, Tryz.f31.body.getD .skip, Tryz.func31, by kernel_rfl, by kernel_rfl, Loops.no _ _⟩
noncomputable def Tb31 : Tb Tryz.prog := { T := [Y2, Y25, Y30], mix := mix, Es := [E_spec_l11Ok, E_spec_l15Vec, E_spec_l15Known, E_spec_l15Angle], Bs := [], d := 1 }
noncomputable def t_spec_AngleBetween (a0 : Point) (a1 : Point) : Tr (T2 Iv I64) :=
  .br (!(F_spec_l11Ok a0)) (.leaf ⟨⟨⟨0, rfl⟩, ⟨0, rfl⟩⟩, ⟨1, rfl⟩⟩) (.br (!(F_spec_l11Ok a1)) (.leaf ⟨⟨⟨0, rfl⟩, ⟨0, rfl⟩⟩, ⟨1, rfl⟩⟩) (let c6 := F_spec_l15Known (F_spec_l15Angle (F_spec_l15Vec a0) (F_spec_l15Vec a1)); .leaf ⟨c6.a, c6.b⟩))
theorem r_spec_AngleBetween (a0 : Point) (a1 : Point) : Tb31.run B31 [enc a0, enc a1] (T2 Iv I64) = (t_spec_AngleBetween a0 a1).opt := by kernel_rfl
noncomputable def F_spec_AngleBetween : Point → Point → T2 Iv I64 := fun a0 a1 => (t_spec_AngleBetween a0 a1).get
theorem u_spec_AngleBetween (a0 : Point) (a1 : Point) : (t_spec_AngleBetween a0 a1).opt = some (F_spec_AngleBetween a0 a1) := Tr.tot_get (by kernel_rfl)
noncomputable def E_spec_AngleBetween : Ent Tryz.prog := .of2 Tb31 B31 (fun _ _ => true) F_spec_AngleBetween fun a0 a1 _ => (r_spec_AngleBetween a0 a1).trans (u_spec_AngleBetween a0 a1)
noncomputable def B32 : Bod Tryz.prog := ⟨32, Tryz.f32, Tryz.f32.body.getD .skip, Tryz.func32, by kernel_rfl, by kernel_rfl, Loops.no _ _⟩
noncomputable def Tb32 : Tb Tryz.prog := { T := [Y2, Y25, Y27, Y30], mix := mix, Es := [E_impl_vectorOf, E_impl_DotV, E_impl_CrossV, E_impl_knownI, E_impl_DirectionI, E_impl_areValid, ET_impl_NormV], Bs := [], d := 1 }
noncomputable def t_impl_AngleBetween (a0 : Point) (a1 : Point) : Tr (T2 Iv I64) :=
  .br (!(F_impl_areValid a0 a1)) (.leaf ⟨⟨⟨0, rfl⟩, ⟨0, rfl⟩⟩, ⟨1, rfl⟩⟩) (let c2 := F_impl_vectorOf a0; let c3 := F_impl_vectorOf a1; let c8 := F_impl_knownI (F_impl_DirectionI (F_impl_NormV (F_impl_CrossV c2 c3)) (F_impl_DotV c2 c3)); .leaf ⟨c8.a, c8.b⟩)
theorem r_impl_AngleBetween (a0 : Point) (a1 : Point) : Tb32.run B32 [enc a0, enc a1] (T2 Iv I64) = (t_impl_AngleBetween a0 a1).opt := by kernel_rfl
noncomputable def F_impl_AngleBetween : Point → Point → T2 Iv I64 := fun a0 a1 => (t_impl_AngleBetween a0 a1).get
theorem u_impl_AngleBetween (a0 : Point) (a1 : Point) : (t_impl_AngleBetween a0 a1).opt = some (F_impl_AngleBetween a0 a1) := Tr.tot_get (by kernel_rfl)
noncomputable def E_impl_AngleBetween : Ent Tryz.prog := .of2 Tb32 B32 (fun _ _ => true) F_impl_AngleBetween fun a0 a1 _ => (r_impl_AngleBetween a0 a1).trans (u_impl_AngleBetween a0 a1)
noncomputable def B9 : Bod Tryz.prog := ⟨9, Tryz.f9, Tryz.f9.body.getD .skip, Tryz.func9, by kernel_rfl, by kernel_rfl, Loops.no _ _⟩
noncomputable def Tb9 : Tb Tryz.prog := { T := [Y2, Y23, Y25], mix := mix, Es := [E_laws_toPoint, E_laws_eqInterval, E_spec_AngleBetween, E_impl_AngleBetween], Bs := [], d := 1 }
noncomputable def t_laws_FnExactAngleBetween (a0 : Point) (a1 : Point) : Tr (Bool) :=
  let c3 := F_spec_AngleBetween (F_laws_toPoint a0) (F_laws_toPoint a1); let c6 := F_impl_AngleBetween (F_laws_toPoint a0) (F_laws_toPoint a1); .br (!(F_laws_eqInterval c6.a c3.a)) (.leaf false) (.br (c6.b.val != c3.b.val) (.leaf false) (.leaf true))
theorem r_laws_FnExactAngleBetween (a0 : Point) (a1 : Point) : Tb9.run B9 [enc a0, enc a1] (Bool) = (t_laws_FnExactAngleBetween a0 a1).opt := by kernel_rfl
noncomputable def F_laws_FnExactAngleBetween : Point → Point → Bool := fun a0 a1 => (t_laws_FnExactAngleBetween a0 a1).get
theorem u_laws_FnExactAngleBetween (a0 : Point) (a1 : Point) : (t_laws_FnExactAngleBetween a0 a1).opt = some (F_laws_FnExactAngleBetween a0 a1) := Tr.tot_get (by kernel_rfl)
noncomputable def E_laws_FnExactAngleBetween : Ent Tryz.prog := .of2 Tb9 B9 (fun _ _ => true) F_laws_FnExactAngleBetween fun a0 a1 _ => (r_laws_FnExactAngleBetween a0 a1).trans (u_laws_FnExactAngleBetween a0 a1)
noncomputable def B33 : Bod Tryz.prog := ⟨33, Tryz.f33, Tryz.f33.body.getD .skip, Tryz.func33, by kernel_rfl, by kernel_rfl, Loops.no _ _⟩
noncomputable def Tb33 : Tb Tryz.prog := { T := [Y2, Y25, Y27, Y30], mix := mix, Es := [E_spec_l11Ok, E_spec_l15Vec, E_spec_DotV, E_spec_CrossV, E_spec_DirectionI, E_spec_l15Known, E_spec_NormV], Bs := [], d := 1 }
noncomputable def t_spec_CrossTrack (a0 : Point) (a1 : Point) (a2 : Point) : Tr (T2 Iv I64) :=
  .br (!(F_spec_l11Ok a0)) (.leaf ⟨⟨⟨0, rfl⟩, ⟨0, rfl⟩⟩, ⟨1, rfl⟩⟩) (.br (!(F_spec_l11Ok a1)) (.leaf ⟨⟨⟨0, rfl⟩, ⟨0, rfl⟩⟩, ⟨1, rfl⟩⟩) (.br (!(F_spec_l11Ok a2)) (.leaf ⟨⟨⟨0, rfl⟩, ⟨0, rfl⟩⟩, ⟨1, rfl⟩⟩) (let c6 := F_spec_CrossV (F_spec_l15Vec a0) (F_spec_l15Vec a1); let c7 := F_spec_l15Vec a2; let c12 := F_spec_l15Known (F_spec_DirectionI (F_spec_DotV c6 c7) (F_spec_NormV (F_spec_CrossV c6 c7))); .leaf ⟨c12.a, c12.b⟩)))
theorem r_spec_CrossTrack (a0 : Point) (a1 : Point) (a2 : Point) : Tb33.run B33 [enc a0, enc a1, enc a2] (T2 Iv I64) = (t_spec_CrossTrack a0 a1 a2).opt := by kernel_rfl
noncomputable def F_spec_CrossTrack : Point → Point → Point → T2 Iv I64 := fun a0 a1 a2 => (t_spec_CrossTrack a0 a1 a2).get
theorem u_spec_CrossTrack (a0 : Point) (a1 : Point) (a2 : Point) : (t_spec_CrossTrack a0 a1 a2).opt = some (F_spec_CrossTrack a0 a1 a2) := Tr.tot_get (by kernel_rfl)
noncomputable def E_spec_CrossTrack : Ent Tryz.prog := .of3 Tb33 B33 (fun _ _ _ => true) F_spec_CrossTrack fun a0 a1 a2 _ => (r_spec_CrossTrack a0 a1 a2).trans (u_spec_CrossTrack a0 a1 a2)
noncomputable def B34 : Bod Tryz.prog := ⟨34, Tryz.f34, Tryz.f34.body.getD .skip, Tryz.func34, by kernel_rfl, by kernel_rfl, Loops.no _ _⟩
noncomputable def Tb34 : Tb Tryz.prog := { T := [Y2, Y25, Y27, Y30, Y86], mix := mix, Es := [E_impl_ValidPoint, E_impl_vectorOf, E_impl_DotV, E_impl_CrossV, E_impl_knownI, E_impl_DirectionI, ET_impl_NormV], Bs := [B53], d := 8 }
noncomputable def t_impl_CrossTrack (a0 : Point) (a1 : Point) (a2 : Point) : Tr (T2 Iv I64) :=
  .br (!(F_impl_ValidPoint a0)) (.leaf ⟨⟨⟨0, rfl⟩, ⟨0, rfl⟩⟩, ⟨1, rfl⟩⟩) (.br (!(F_impl_ValidPoint a1)) (.leaf ⟨⟨⟨0, rfl⟩, ⟨0, rfl⟩⟩, ⟨1, rfl⟩⟩) (.br (!(F_impl_ValidPoint a2)) (.leaf ⟨⟨⟨0, rfl⟩, ⟨0, rfl⟩⟩, ⟨1, rfl⟩⟩) (let c6 := F_impl_CrossV (F_impl_vectorOf a0) (F_impl_vectorOf a1); let c7 := F_impl_vectorOf a2; let c12 := F_impl_knownI (F_impl_DirectionI (F_impl_DotV c6 c7) (F_impl_NormV (F_impl_CrossV c6 c7))); .leaf ⟨c12.a, c12.b⟩)))
theorem r_impl_CrossTrack (a0 : Point) (a1 : Point) (a2 : Point) : Tb34.run B34 [enc a0, enc a1, enc a2] (T2 Iv I64) = (t_impl_CrossTrack a0 a1 a2).opt := by kernel_rfl
noncomputable def F_impl_CrossTrack : Point → Point → Point → T2 Iv I64 := fun a0 a1 a2 => (t_impl_CrossTrack a0 a1 a2).get
theorem u_impl_CrossTrack (a0 : Point) (a1 : Point) (a2 : Point) : (t_impl_CrossTrack a0 a1 a2).opt = some (F_impl_CrossTrack a0 a1 a2) := Tr.tot_get (by kernel_rfl)
noncomputable def E_impl_CrossTrack : Ent Tryz.prog := .of3 Tb34 B34 (fun _ _ _ => true) F_impl_CrossTrack fun a0 a1 a2 _ => (r_impl_CrossTrack a0 a1 a2).trans (u_impl_CrossTrack a0 a1 a2)
noncomputable def B10 : Bod Tryz.prog := ⟨10, Tryz.f10, Tryz.f10.body.getD .skip, Tryz.func10, by kernel_rfl, by kernel_rfl, Loops.no _ _⟩
noncomputable def Tb10 : Tb Tryz.prog := { T := [Y2, Y23, Y25], mix := mix, Es := [E_laws_toPoint, E_laws_eqInterval, E_spec_CrossTrack, E_impl_CrossTrack], Bs := [], d := 1 }
noncomputable def t_laws_FnExactCrossTrack (a0 : Point) (a1 : Point) (a2 : Point) : Tr (Bool) :=
  let c4 := F_spec_CrossTrack (F_laws_toPoint a0) (F_laws_toPoint a1) (F_laws_toPoint a2); let c8 := F_impl_CrossTrack (F_laws_toPoint a0) (F_laws_toPoint a1) (F_laws_toPoint a2); .br (!(F_laws_eqInterval c8.a c4.a)) (.leaf false) (.br (c8.b.val != c4.b.val) (.leaf false) (.leaf true))
theorem r_laws_FnExactCrossTrack (a0 : Point) (a1 : Point) (a2 : Point) : Tb10.run B10 [enc a0, enc a1, enc a2] (Bool) = (t_laws_FnExactCrossTrack a0 a1 a2).opt := by kernel_rfl
noncomputable def F_laws_FnExactCrossTrack : Point → Point → Point → Bool := fun a0 a1 a2 => (t_laws_FnExactCrossTrack a0 a1 a2).get
theorem u_laws_FnExactCrossTrack (a0 : Point) (a1 : Point) (a2 : Point) : (t_laws_FnExactCrossTrack a0 a1 a2).opt = some (F_laws_FnExactCrossTrack a0 a1 a2) := Tr.tot_get (by kernel_rfl)
noncomputable def E_laws_FnExactCrossTrack : Ent Tryz.prog := .of3 Tb10 B10 (fun _ _ _ => true) F_laws_FnExactCrossTrack fun a0 a1 a2 _ => (r_laws_FnExactCrossTrack a0 a1 a2).trans (u_laws_FnExactCrossTrack a0 a1 a2)
noncomputable def B35 : Bod Tryz.prog := ⟨35, Tryz.f35, Tryz.f35.body.getD .skip, Tryz.func35, by kernel_rfl, by kernel_rfl, Loops.no _ _⟩
noncomputable def Tb35 : Tb Tryz.prog := { T := [Y2, Y25, Y27, Y30], mix := mix, Es := [E_spec_PositionOf, E_spec_l11Ok, ET_spec_RadiansOf, E_spec_MulI, E_spec_CosI, E_spec_SinI, E_spec_SubI, E_spec_AddI], Bs := [], d := 1 }
noncomputable def t_spec_Destination (a0 : Point) (a1 : Iv) (a2 : Iv) : Tr (T3 Iv Iv I64) :=
  .br (!(F_spec_l11Ok a0)) (.leaf ⟨⟨⟨0, rfl⟩, ⟨0, rfl⟩⟩, ⟨⟨0, rfl⟩, ⟨0, rfl⟩⟩, ⟨1, rfl⟩⟩) (let c2 := F_spec_RadiansOf a0.lat; let c3 := F_spec_SinI a2; let c4 := F_spec_CosI a2; let c21 := F_spec_PositionOf ⟨(F_spec_SubI (F_spec_MulI (F_spec_CosI c2) c4) (F_spec_MulI (F_spec_MulI (F_spec_SinI c2) c3) (F_spec_CosI a1))), (F_spec_MulI c3 (F_spec_SinI a1)), (F_spec_AddI (F_spec_MulI (F_spec_SinI c2) c4) (F_spec_MulI (F_spec_MulI (F_spec_CosI c2) c3) (F_spec_CosI a1)))⟩; .br (c21.c.val != 0) (.leaf ⟨⟨⟨0, rfl⟩, ⟨0, rfl⟩⟩, ⟨⟨0, rfl⟩, ⟨0, rfl⟩⟩, c21.c⟩) (.leaf ⟨c21.a, (F_spec_AddI (F_spec_RadiansOf a0.lon) c21.b), ⟨0, rfl⟩⟩))
theorem r_spec_Destination (a0 : Point) (a1 : Iv) (a2 : Iv) : Tb35.run B35 [enc a0, enc a1, enc a2] (T3 Iv Iv I64) = (t_spec_Destination a0 a1 a2).opt := by kernel_rfl
noncomputable def F_spec_Destination : Point → Iv → Iv → T3 Iv Iv I64 := fun a0 a1 a2 => (t_spec_Destination a0 a1 a2).get
theorem u_spec_Destination (a0 : Point) (a1 : Iv) (a2 : Iv) : (t_spec_Destination a0 a1 a2).opt = some (F_spec_Destination a0 a1 a2) := Tr.tot_get (by kernel_rfl)
noncomputable def E_spec_Destination : Ent Tryz.prog := .of3 Tb35 B35 (fun _ _ _ => true) F_spec_Destination fun a0 a1 a2 _ => (r_spec_Destination a0 a1 a2).trans (u_spec_Destination a0 a1 a2)
noncomputable def B37 : Bod Tryz.prog := ⟨37, Tryz.f37, Tryz.f37.body.getD .skip, Tryz.func37, by kernel_rfl, by kernel_rfl, Loops.no _ _⟩
noncomputable def Tb37 : Tb Tryz.prog := { T := [Y2, Y25, Y27, Y30], mix := mix, Es := [E_impl_PositionOf, E_impl_ValidPoint, E_impl_LatOf, E_impl_AddI, E_impl_SinI, E_impl_CosI, E_impl_SubI, ET_impl_MulI, E_impl_LonOf], Bs := [], d := 1 }
noncomputable def t_impl_Destination (a0 : Point) (a1 : Iv) (a2 : Iv) : Tr (T3 Iv Iv I64) :=
  .br (!(F_impl_ValidPoint a0)) (.leaf ⟨⟨⟨0, rfl⟩, ⟨0, rfl⟩⟩, ⟨⟨0, rfl⟩, ⟨0, rfl⟩⟩, ⟨1, rfl⟩⟩) (let c2 := F_impl_LatOf a0; let c3 := F_impl_SinI a2; let c4 := F_impl_CosI a2; let c21 := F_impl_PositionOf ⟨(F_impl_SubI (F_impl_MulI (F_impl_CosI c2) c4) (F_impl_MulI (F_impl_MulI (F_impl_SinI c2) c3) (F_impl_CosI a1))), (F_impl_MulI c3 (F_impl_SinI a1)), (F_impl_AddI (F_impl_MulI (F_impl_SinI c2) c4) (F_impl_MulI (F_impl_MulI (F_impl_CosI c2) c3) (F_impl_CosI a1)))⟩; .br (c21.c.val != 0) (.leaf ⟨⟨⟨0, rfl⟩, ⟨0, rfl⟩⟩, ⟨⟨0, rfl⟩, ⟨0, rfl⟩⟩, c21.c⟩) (.leaf ⟨c21.a, (F_impl_AddI (F_impl_LonOf a0) c21.b), ⟨0, rfl⟩⟩))
theorem r_impl_Destination (a0 : Point) (a1 : Iv) (a2 : Iv) : Tb37.run B37 [enc a0, enc a1, enc a2] (T3 Iv Iv I64) = (t_impl_Destination a0 a1 a2).opt := by kernel_rfl
noncomputable def F_impl_Destination : Point → Iv → Iv → T3 Iv Iv I64 := fun a0 a1 a2 => (t_impl_Destination a0 a1 a2).get
theorem u_impl_Destination (a0 : Point) (a1 : Iv) (a2 : Iv) : (t_impl_Destination a0 a1 a2).opt = some (F_impl_Destination a0 a1 a2) := Tr.tot_get (by kernel_rfl)
noncomputable def E_impl_Destination : Ent Tryz.prog := .of3 Tb37 B37 (fun _ _ _ => true) F_impl_Destination fun a0 a1 a2 _ => (r_impl_Destination a0 a1 a2).trans (u_impl_Destination a0 a1 a2)
noncomputable def B11 : Bod Tryz.prog := ⟨11, Tryz.f11, Tryz.f11.body.getD .skip, Tryz.func11, by kernel_rfl, by kernel_rfl, Loops.no _ _⟩
noncomputable def Tb11 : Tb Tryz.prog := { T := [Y2, Y23, Y25, Y37], mix := mix, Es := [E_laws_toPoint, E_laws_eqInterval, E_spec_Destination, E_laws_toInterval, E_impl_Destination], Bs := [], d := 1 }
noncomputable def t_laws_FnExactDestination (a0 : Point) (a1 : Iv) (a2 : Iv) : Tr (Bool) :=
  let c4 := F_spec_Destination (F_laws_toPoint a0) (F_laws_toInterval a1) (F_laws_toInterval a2); let c8 := F_impl_Destination (F_laws_toPoint a0) (F_laws_toInterval a1) (F_laws_toInterval a2); .br (!(F_laws_eqInterval c8.a c4.a)) (.leaf false) (.br (!(F_laws_eqInterval c8.b c4.b)) (.leaf false) (.br (c8.c.val != c4.c.val) (.leaf false) (.leaf true)))
theorem r_laws_FnExactDestination (a0 : Point) (a1 : Iv) (a2 : Iv) : Tb11.run B11 [enc a0, enc a1, enc a2] (Bool) = (t_laws_FnExactDestination a0 a1 a2).opt := by kernel_rfl
noncomputable def F_laws_FnExactDestination : Point → Iv → Iv → Bool := fun a0 a1 a2 => (t_laws_FnExactDestination a0 a1 a2).get
theorem u_laws_FnExactDestination (a0 : Point) (a1 : Iv) (a2 : Iv) : (t_laws_FnExactDestination a0 a1 a2).opt = some (F_laws_FnExactDestination a0 a1 a2) := Tr.tot_get (by kernel_rfl)
noncomputable def E_laws_FnExactDestination : Ent Tryz.prog := .of3 Tb11 B11 (fun _ _ _ => true) F_laws_FnExactDestination fun a0 a1 a2 _ => (r_laws_FnExactDestination a0 a1 a2).trans (u_laws_FnExactDestination a0 a1 a2)
noncomputable def B38 : Bod Tryz.prog := ⟨38, Tryz.f38, Tryz.f38.body.getD .skip, Tryz.func38, by kernel_rfl, by kernel_rfl, Loops.no _ _⟩
noncomputable def Tb38 : Tb Tryz.prog := { T := [Y2, Y25, Y27, Y30], mix := mix, Es := [E_spec_PositionOf, E_spec_l11Ok, E_spec_l15Vec, E_spec_CrossV], Bs := [], d := 1 }
noncomputable def t_spec_CrossingOf (a0 : Point) (a1 : Point) (a2 : Point) (a3 : Point) : Tr (T3 Iv Iv I64) :=
  .br (!(F_spec_l11Ok a0)) (.leaf ⟨⟨⟨0, rfl⟩, ⟨0, rfl⟩⟩, ⟨⟨0, rfl⟩, ⟨0, rfl⟩⟩, ⟨1, rfl⟩⟩) (.br (!(F_spec_l11Ok a1)) (.leaf ⟨⟨⟨0, rfl⟩, ⟨0, rfl⟩⟩, ⟨⟨0, rfl⟩, ⟨0, rfl⟩⟩, ⟨1, rfl⟩⟩) (.br (!(F_spec_l11Ok a2)) (.leaf ⟨⟨⟨0, rfl⟩, ⟨0, rfl⟩⟩, ⟨⟨0, rfl⟩, ⟨0, rfl⟩⟩, ⟨1, rfl⟩⟩) (.br (!(F_spec_l11Ok a3)) (.leaf ⟨⟨⟨0, rfl⟩, ⟨0, rfl⟩⟩, ⟨⟨0, rfl⟩, ⟨0, rfl⟩⟩, ⟨1, rfl⟩⟩) (let c12 := F_spec_PositionOf (F_spec_CrossV (F_spec_CrossV (F_spec_l15Vec a0) (F_spec_l15Vec a1)) (F_spec_CrossV (F_spec_l15Vec a2) (F_spec_l15Vec a3))); .leaf ⟨c12.a, c12.b, c12.c⟩))))
theorem r_spec_CrossingOf (a0 : Point) (a1 : Point) (a2 : Point) (a3 : Point) : Tb38.run B38 [enc a0, enc a1, enc a2, enc a3] (T3 Iv Iv I64) = (t_spec_CrossingOf a0 a1 a2 a3).opt := by kernel_rfl
noncomputable def F_spec_CrossingOf : Point → Point → Point → Point → T3 Iv Iv I64 := fun a0 a1 a2 a3 => (t_spec_CrossingOf a0 a1 a2 a3).get
theorem u_spec_CrossingOf (a0 : Point) (a1 : Point) (a2 : Point) (a3 : Point) : (t_spec_CrossingOf a0 a1 a2 a3).opt = some (F_spec_CrossingOf a0 a1 a2 a3) := Tr.tot_get (by kernel_rfl)
noncomputable def E_spec_CrossingOf : Ent Tryz.prog := .of4 Tb38 B38 (fun _ _ _ _ => true) F_spec_CrossingOf fun a0 a1 a2 a3 _ => (r_spec_CrossingOf a0 a1 a2 a3).trans (u_spec_CrossingOf a0 a1 a2 a3)
noncomputable def B39 : Bod Tryz.prog := ⟨39, Tryz.f39, Tryz.f39.body.getD .skip, Tryz.func39, by kernel_rfl, by kernel_rfl, Loops.no _ _⟩
noncomputable def Tb39 : Tb Tryz.prog := { T := [Y2, Y25, Y30, Y86], mix := mix, Es := [E_impl_PositionOf, E_impl_ValidPoint, E_impl_vectorOf, E_impl_CrossV], Bs := [B53], d := 8 }
noncomputable def t_impl_CrossingOf (a0 : Point) (a1 : Point) (a2 : Point) (a3 : Point) : Tr (T3 Iv Iv I64) :=
  .br (!(F_impl_ValidPoint a0)) (.leaf ⟨⟨⟨0, rfl⟩, ⟨0, rfl⟩⟩, ⟨⟨0, rfl⟩, ⟨0, rfl⟩⟩, ⟨1, rfl⟩⟩) (.br (!(F_impl_ValidPoint a1)) (.leaf ⟨⟨⟨0, rfl⟩, ⟨0, rfl⟩⟩, ⟨⟨0, rfl⟩, ⟨0, rfl⟩⟩, ⟨1, rfl⟩⟩) (.br (!(F_impl_ValidPoint a2)) (.leaf ⟨⟨⟨0, rfl⟩, ⟨0, rfl⟩⟩, ⟨⟨0, rfl⟩, ⟨0, rfl⟩⟩, ⟨1, rfl⟩⟩) (.br (!(F_impl_ValidPoint a3)) (.leaf ⟨⟨⟨0, rfl⟩, ⟨0, rfl⟩⟩, ⟨⟨0, rfl⟩, ⟨0, rfl⟩⟩, ⟨1, rfl⟩⟩) (let c12 := F_impl_PositionOf (F_impl_CrossV (F_impl_CrossV (F_impl_vectorOf a0) (F_impl_vectorOf a1)) (F_impl_CrossV (F_impl_vectorOf a2) (F_impl_vectorOf a3))); .leaf ⟨c12.a, c12.b, c12.c⟩))))
theorem r_impl_CrossingOf (a0 : Point) (a1 : Point) (a2 : Point) (a3 : Point) : Tb39.run B39 [enc a0, enc a1, enc a2, enc a3] (T3 Iv Iv I64) = (t_impl_CrossingOf a0 a1 a2 a3).opt := by kernel_rfl
noncomputable def F_impl_CrossingOf : Point → Point → Point → Point → T3 Iv Iv I64 := fun a0 a1 a2 a3 => (t_impl_CrossingOf a0 a1 a2 a3).get
theorem u_impl_CrossingOf (a0 : Point) (a1 : Point) (a2 : Point) (a3 : Point) : (t_impl_CrossingOf a0 a1 a2 a3).opt = some (F_impl_CrossingOf a0 a1 a2 a3) := Tr.tot_get (by kernel_rfl)
noncomputable def E_impl_CrossingOf : Ent Tryz.prog := .of4 Tb39 B39 (fun _ _ _ _ => true) F_impl_CrossingOf fun a0 a1 a2 a3 _ => (r_impl_CrossingOf a0 a1 a2 a3).trans (u_impl_CrossingOf a0 a1 a2 a3)
noncomputable def B12 : Bod Tryz.prog := ⟨12, Tryz.f12, Tryz.f12.body.getD .skip, Tryz.func12, by kernel_rfl, by kernel_rfl, Loops.no _ _⟩
noncomputable def Tb12 : Tb Tryz.prog := { T := [Y2, Y23, Y25], mix := mix, Es := [E_laws_toPoint, E_laws_eqInterval, E_spec_CrossingOf, E_impl_CrossingOf], Bs := [], d := 1 }
noncomputable def t_laws_FnExactCrossingOf (a0 : Point) (a1 : Point) (a2 : Point) (a3 : Point) : Tr (Bool) :=
  let c5 := F_spec_CrossingOf (F_laws_toPoint a0) (F_laws_toPoint a1) (F_laws_toPoint a2) (F_laws_toPoint a3); let c10 := F_impl_CrossingOf (F_laws_toPoint a0) (F_laws_toPoint a1) (F_laws_toPoint a2) (F_laws_toPoint a3); .br (!(F_laws_eqInterval c10.a c5.a)) (.leaf false) (.br (!(F_laws_eqInterval c10.b c5.b)) (.leaf false) (.br (c10.c.val != c5.c.val) (.leaf false) (.leaf true)))
theorem r_laws_FnExactCrossingOf (a0 : Point) (a1 : Point) (a2 : Point) (a3 : Point) : Tb12.run B12 [enc a0, enc a1, enc a2, enc a3] (Bool) = (t_laws_FnExactCrossingOf a0 a1 a2 a3).opt := by kernel_rfl
noncomputable def F_laws_FnExactCrossingOf : Point → Point → Point → Point → Bool := fun a0 a1 a2 a3 => (t_laws_FnExactCrossingOf a0 a1 a2 a3).get
theorem u_laws_FnExactCrossingOf (a0 : Point) (a1 : Point) (a2 : Point) (a3 : Point) : (t_laws_FnExactCrossingOf a0 a1 a2 a3).opt = some (F_laws_FnExactCrossingOf a0 a1 a2 a3) := Tr.tot_get (by kernel_rfl)
noncomputable def E_laws_FnExactCrossingOf : Ent Tryz.prog := .of4 Tb12 B12 (fun _ _ _ _ => true) F_laws_FnExactCrossingOf fun a0 a1 a2 a3 _ => (r_laws_FnExactCrossingOf a0 a1 a2 a3).trans (u_laws_FnExactCrossingOf a0 a1 a2 a3)
noncomputable def B147 : Bod Tryz.prog := ⟨147, Tryz.f147, Tryz.f147.body.getD .skip, Tryz.func147, by kernel_rfl, by kernel_rfl, Loops.no _ _⟩
noncomputable def Tb147 : Tb Tryz.prog := { T := [], mix := mix, Es := [E_spec_l00In], Bs := [], d := 1 }
noncomputable def t_spec_l18Kind (a0 : I64) : Tr (Bool) :=
  .leaf (F_spec_l00In a0 ⟨5, rfl⟩ ⟨9, rfl⟩)
theorem r_spec_l18Kind (a0 : I64) : Tb147.run B147 [enc a0] (Bool) = (t_spec_l18Kind a0).opt := by kernel_rfl
noncomputable def F_spec_l18Kind : I64 → Bool := fun a0 => (t_spec_l18Kind a0).get
theorem u_spec_l18Kind (a0 : I64) : (t_spec_l18Kind a0).opt = some (F_spec_l18Kind a0) := Tr.tot_get (by kernel_rfl)
noncomputable def E_spec_l18Kind : Ent Tryz.prog := .of1 Tb147 B147 (fun _ => true) F_spec_l18Kind fun a0 _ => (r_spec_l18Kind a0).trans (u_spec_l18Kind a0)
noncomputable def B95 : Bod Tryz.prog := ⟨95, Tryz.f95, Tryz.f95.body.getD .skip, Tryz.func95, by kernel_rfl, by kernel_rfl, Loops.no _ _⟩
noncomputable def B96 : Bod Tryz.prog := ⟨96, Tryz.f96, Tryz.f96.body.getD .skip, Tryz.func96, by kernel_rfl, by kernel_rfl, Loops.no _ _⟩
noncomputable def B42 : Bod Tryz.prog := ⟨42, Tryz.f42, Tryz.f42.body.getD .skip, Tryz.func42, by kernel_rfl, by kernel_rfl, Loops.no _ _⟩
noncomputable def Tb42 : Tb Tryz.prog := { T := [Y2, Y25, Y27, Y30, Y58], mix := mix, Es := [E_spec_l11Ok, E_spec_LessI, E_spec_Integer, ET_spec_RadiansOf, E_spec_l11Wrap, E_spec_MulI, E_spec_CosI, E_spec_SinI, E_spec_SubI, E_spec_AddI, E_spec_l18Kind, E_spec_ValidProjection], Bs := [B95, B96], d := 8 }
noncomputable def t_spec_NearSide (a0 : Proj) (a1 : Point) : Tr (T2 I64 I64) :=
  .br (F_spec_l18Kind a0.kind) (.br (!(F_spec_ValidProjection a0)) (.leaf ⟨⟨0, rfl⟩, ⟨1, rfl⟩⟩) (.br (!(F_spec_l11Ok a1)) (.leaf ⟨⟨0, rfl⟩, ⟨1, rfl⟩⟩) (let c4 := F_spec_RadiansOf a0.lat0; let c5 := F_spec_RadiansOf a1.lat; .leaf ⟨(F_spec_LessI (F_spec_Integer ⟨0, rfl⟩) (F_spec_AddI (F_spec_MulI (F_spec_SinI c4) (F_spec_SinI c5)) (F_spec_MulI (F_spec_MulI (F_spec_CosI c4) (F_spec_CosI c5)) (F_spec_CosI (F_spec_RadiansOf (F_spec_l11Wrap (Rng.w .i64 (a1.lon.val - a0.lon0.val)))))))), ⟨0, rfl⟩⟩))) (.leaf ⟨⟨0, rfl⟩, ⟨1, rfl⟩⟩)
theorem r_spec_NearSide (a0 : Proj) (a1 : Point) : Tb42.run B42 [enc a0, enc a1] (T2 I64 I64) = (t_spec_NearSide a0 a1).opt := by kernel_rfl
noncomputable def F_spec_NearSide : Proj → Point → T2 I64 I64 := fun a0 a1 => (t_spec_NearSide a0 a1).get
theorem u_spec_NearSide (a0 : Proj) (a1 : Point) : (t_spec_NearSide a0 a1).opt = some (F_spec_NearSide a0 a1) := Tr.tot_get (by kernel_rfl)
noncomputable def E_spec_NearSide : Ent Tryz.prog := .of2 Tb42 B42 (fun _ _ => true) F_spec_NearSide fun a0 a1 _ => (r_spec_NearSide a0 a1).trans (u_spec_NearSide a0 a1)
noncomputable def B149 : Bod Tryz.prog := ⟨149, Tryz.f149, Tryz.f149.body.getD .skip, Tryz.func149, by kernel_rfl, by kernel_rfl, Loops.no _ _⟩
noncomputable def Tb149 : Tb Tryz.prog := { T := [Y2, Y58], mix := mix, Es := [E_impl_ValidProjection, E_impl_isAzimuthal], Bs := [], d := 1 }
noncomputable def t_impl_isAzimuthalOne (a0 : Proj) : Tr (Bool) :=
  .br (F_impl_ValidProjection a0) (.leaf (F_impl_isAzimuthal a0.kind)) (.leaf false)
theorem r_impl_isAzimuthalOne (a0 : Proj) : Tb149.run B149 [enc a0] (Bool) = (t_impl_isAzimuthalOne a0).opt := by kernel_rfl
noncomputable def F_impl_isAzimuthalOne : Proj → Bool := fun a0 => (t_impl_isAzimuthalOne a0).get
theorem u_impl_isAzimuthalOne (a0 : Proj) : (t_impl_isAzimuthalOne a0).opt = some (F_impl_isAzimuthalOne a0) := Tr.tot_get (by kernel_rfl)
noncomputable def E_impl_isAzimuthalOne : Ent Tryz.prog := .of1 Tb149 B149 (fun _ => true) F_impl_isAzimuthalOne fun a0 _ => (r_impl_isAzimuthalOne a0).trans (u_impl_isAzimuthalOne a0)
noncomputable def B150 : Bod Tryz.prog := ⟨150, Tryz.f150, Tryz.f150.body.getD .skip, Tryz.func150, by kernel_rfl, by kernel_rfl, Loops.no _ _⟩
noncomputable def Tb150 : Tb Tryz.prog := { T := [Y2, Y30, Y58], mix := mix, Es := [], Bs := [], d := 1 }
noncomputable def t_impl_Projection_centre (a0 : Proj) : Tr (Point) :=
  .leaf ⟨a0.lat0, a0.lon0⟩
theorem r_impl_Projection_centre (a0 : Proj) : Tb150.run B150 [enc a0] (Point) = (t_impl_Projection_centre a0).opt := by kernel_rfl
noncomputable def F_impl_Projection_centre : Proj → Point := fun a0 => (t_impl_Projection_centre a0).get
theorem u_impl_Projection_centre (a0 : Proj) : (t_impl_Projection_centre a0).opt = some (F_impl_Projection_centre a0) := Tr.tot_get (by kernel_rfl)
noncomputable def E_impl_Projection_centre : Ent Tryz.prog := .of1 Tb150 B150 (fun _ => true) F_impl_Projection_centre fun a0 _ => (r_impl_Projection_centre a0).trans (u_impl_Projection_centre a0)
noncomputable def B97 : Bod Tryz.prog := ⟨97, Tryz.f97, Tryz.f97.body.getD .skip, Tryz.func97, by kernel_rfl, by kernel_rfl, Loops.no _ _⟩
noncomputable def Tb97 : Tb Tryz.prog := { T := [Y2, Y25, Y27, Y30, Y58], mix := mix, Es := [E_impl_ValidPoint, E_impl_localOf, E_impl_LatOf, E_impl_differenceOf, E_impl_isAzimuthalOne, E_impl_Projection_centre], Bs := [], d := 1 }
noncomputable def t_impl_LocalOf (a0 : Proj) (a1 : Point) : Tr (T2 Vec I64) :=
  .br (!(F_impl_isAzimuthalOne a0)) (.leaf ⟨⟨⟨⟨0, rfl⟩, ⟨0, rfl⟩⟩, ⟨⟨0, rfl⟩, ⟨0, rfl⟩⟩, ⟨⟨0, rfl⟩, ⟨0, rfl⟩⟩⟩, ⟨1, rfl⟩⟩) (.br (!(F_impl_ValidPoint a1)) (.leaf ⟨⟨⟨⟨0, rfl⟩, ⟨0, rfl⟩⟩, ⟨⟨0, rfl⟩, ⟨0, rfl⟩⟩, ⟨⟨0, rfl⟩, ⟨0, rfl⟩⟩⟩, ⟨1, rfl⟩⟩) (.leaf ⟨(F_impl_localOf (F_impl_LatOf (F_impl_Projection_centre a0)) (F_impl_LatOf a1) (F_impl_differenceOf (F_impl_Projection_centre a0) a1)), ⟨0, rfl⟩⟩))
theorem r_impl_LocalOf (a0 : Proj) (a1 : Point) : Tb97.run B97 [enc a0, enc a1] (T2 Vec I64) = (t_impl_LocalOf a0 a1).opt := by kernel_rfl
noncomputable def F_impl_LocalOf : Proj → Point → T2 Vec I64 := fun a0 a1 => (t_impl_LocalOf a0 a1).get
theorem u_impl_LocalOf (a0 : Proj) (a1 : Point) : (t_impl_LocalOf a0 a1).opt = some (F_impl_LocalOf a0 a1) := Tr.tot_get (by kernel_rfl)
noncomputable def E_impl_LocalOf : Ent Tryz.prog := .of2 Tb97 B97 (fun _ _ => true) F_impl_LocalOf fun a0 a1 _ => (r_impl_LocalOf a0 a1).trans (u_impl_LocalOf a0 a1)
noncomputable def B44 : Bod Tryz.prog := ⟨44, Tryz.f44, Tryz.f44.body.getD .skip, Tryz.func44, by kernel_rfl, by kernel_rfl, Loops.no _ _⟩
noncomputable def Tb44 : Tb Tryz.prog := { T := [Y2, Y25, Y27, Y30, Y58], mix := mix, Es := [E_impl_LessI, E_impl_Integer, E_impl_LocalOf], Bs := [], d := 1 }
noncomputable def t_impl_NearSide (a0 : Proj) (a1 : Point) : Tr (T2 I64 I64) :=
  let c1 := F_impl_LocalOf a0 a1; .br (c1.b.val != 0) (.leaf ⟨⟨0, rfl⟩, c1.b⟩) (.leaf ⟨(F_impl_LessI (F_impl_Integer ⟨0, rfl⟩) c1.a.z), ⟨0, rfl⟩⟩)
theorem r_impl_NearSide (a0 : Proj) (a1 : Point) : Tb44.run B44 [enc a0, enc a1] (T2 I64 I64) = (t_impl_NearSide a0 a1).opt := by kernel_rfl
noncomputable def F_impl_NearSide : Proj → Point → T2 I64 I64 := fun a0 a1 => (t_impl_NearSide a0 a1).get
theorem u_impl_NearSide (a0 : Proj) (a1 : Point) : (t_impl_NearSide a0 a1).opt = some (F_impl_NearSide a0 a1) := Tr.tot_get (by kernel_rfl)
noncomputable def E_impl_NearSide : Ent Tryz.prog := .of2 Tb44 B44 (fun _ _ => true) F_impl_NearSide fun a0 a1 _ => (r_impl_NearSide a0 a1).trans (u_impl_NearSide a0 a1)
noncomputable def B14 : Bod Tryz.prog := ⟨14, Tryz.f14, Tryz.f14.body.getD .skip, Tryz.func14, by kernel_rfl, by kernel_rfl, Loops.no _ _⟩
noncomputable def Tb14 : Tb Tryz.prog := { T := [Y23, Y56], mix := mix, Es := [E_laws_toPoint, E_spec_NearSide, E_laws_toProjection, E_impl_NearSide], Bs := [], d := 1 }
noncomputable def t_laws_FnExactNearSide (a0 : Proj) (a1 : Point) : Tr (Bool) :=
  let c3 := F_spec_NearSide (F_laws_toProjection a0) (F_laws_toPoint a1); let c6 := F_impl_NearSide (F_laws_toProjection a0) (F_laws_toPoint a1); .br (c6.a.val != c3.a.val) (.leaf false) (.br (c6.b.val != c3.b.val) (.leaf false) (.leaf true))
theorem r_laws_FnExactNearSide (a0 : Proj) (a1 : Point) : Tb14.run B14 [enc a0, enc a1] (Bool) = (t_laws_FnExactNearSide a0 a1).opt := by kernel_rfl
noncomputable def F_laws_FnExactNearSide : Proj → Point → Bool := fun a0 a1 => (t_laws_FnExactNearSide a0 a1).get
theorem u_laws_FnExactNearSide (a0 : Proj) (a1 : Point) : (t_laws_FnExactNearSide a0 a1).opt = some (F_laws_FnExactNearSide a0 a1) := Tr.tot_get (by kernel_rfl)
noncomputable def E_laws_FnExactNearSide : Ent Tryz.prog := .of2 Tb14 B14 (fun _ _ => true) F_laws_FnExactNearSide fun a0 a1 _ => (r_laws_FnExactNearSide a0 a1).trans (u_laws_FnExactNearSide a0 a1)
end
end Go.Proofs.YtjfkljhgbomkiaaGreat.Ev
