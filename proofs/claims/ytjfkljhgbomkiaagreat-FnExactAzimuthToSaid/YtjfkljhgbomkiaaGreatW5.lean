import Derived.Test.YtjfkljhgbomkiaaGreatW4
import Derived.Test.YtjfkljhgbomkiaaGreatP11
namespace Go.Proofs.YtjfkljhgbomkiaaGreat.Ev
open Go Go.RowKit
set_option maxRecDepth 100000
set_option linter.unusedVariables false
section
noncomputable def ET_spec_l06Over : Ent Tryz.prog := .of2 Tb119 B119 (fun _ _ => true) F_spec_l06Over fun a0 a1 _ => (r_spec_l06Over a0 a1).trans (tt_over_spec a0 a1)
noncomputable def B67 : Bod Tryz.prog := ⟨67, Tryz.f67, Tryz.f67.body.getD .skip, Tryz.func67, by kernel_rfl, by kernel_rfl, Loops.no _ _⟩
noncomputable def Tb67 : Tb Tryz.prog := { T := [Y2, Y25], mix := mix, Es := [ET_spec_l06Over], Bs := [], d := 1 }
noncomputable def t_spec_CosI (a0 : Iv) : Tr (Iv) :=
  .leaf (F_spec_l06Over a0 ⟨1, rfl⟩)
theorem r_spec_CosI (a0 : Iv) : Tb67.run B67 [enc a0] (Iv) = (t_spec_CosI a0).opt := by kernel_rfl
noncomputable def F_spec_CosI : Iv → Iv := fun a0 => (t_spec_CosI a0).get
theorem u_spec_CosI (a0 : Iv) : (t_spec_CosI a0).opt = some (F_spec_CosI a0) := Tr.tot_get (by kernel_rfl)
noncomputable def E_spec_CosI : Ent Tryz.prog := .of1 Tb67 B67 (fun _ => true) F_spec_CosI fun a0 _ => (r_spec_CosI a0).trans (u_spec_CosI a0)
noncomputable def B84 : Bod Tryz.prog := ⟨84, Tryz.f84, Tryz.f84.body.getD .skip, Tryz.func84, by kernel_rfl, by kernel_rfl, Loops.no _ _⟩
noncomputable def Tb84 : Tb Tryz.prog := { T := [Y2, Y25], mix := mix, Es := [E_impl_circleHull], Bs := [], d := 1 }
noncomputable def t_impl_CosI (a0 : Iv) : Tr (Iv) :=
  .leaf (F_impl_circleHull a0 ⟨1, rfl⟩)
theorem r_impl_CosI (a0 : Iv) : Tb84.run B84 [enc a0] (Iv) = (t_impl_CosI a0).opt := by kernel_rfl
noncomputable def F_impl_CosI : Iv → Iv := fun a0 => (t_impl_CosI a0).get
theorem u_impl_CosI (a0 : Iv) : (t_impl_CosI a0).opt = some (F_impl_CosI a0) := Tr.tot_get (by kernel_rfl)
noncomputable def E_impl_CosI : Ent Tryz.prog := .of1 Tb84 B84 (fun _ => true) F_impl_CosI fun a0 _ => (r_impl_CosI a0).trans (u_impl_CosI a0)
noncomputable def B68 : Bod Tryz.prog := ⟨68, Tryz.f68, Tryz.f68.body.getD .skip, Tryz.func68, by kernel_rfl, by kernel_rfl, Loops.no _ _⟩
noncomputable def Tb68 : Tb Tryz.prog := { T := [Y2, Y25], mix := mix, Es := [ET_spec_l06Over], Bs := [], d := 1 }
noncomputable def t_spec_SinI (a0 : Iv) : Tr (Iv) :=
  .leaf (F_spec_l06Over a0 ⟨0, rfl⟩)
theorem r_spec_SinI (a0 : Iv) : Tb68.run B68 [enc a0] (Iv) = (t_spec_SinI a0).opt := by kernel_rfl
noncomputable def F_spec_SinI : Iv → Iv := fun a0 => (t_spec_SinI a0).get
theorem u_spec_SinI (a0 : Iv) : (t_spec_SinI a0).opt = some (F_spec_SinI a0) := Tr.tot_get (by kernel_rfl)
noncomputable def E_spec_SinI : Ent Tryz.prog := .of1 Tb68 B68 (fun _ => true) F_spec_SinI fun a0 _ => (r_spec_SinI a0).trans (u_spec_SinI a0)
noncomputable def B83 : Bod Tryz.prog := ⟨83, Tryz.f83, Tryz.f83.body.getD .skip, Tryz.func83, by kernel_rfl, by kernel_rfl, Loops.no _ _⟩
noncomputable def Tb83 : Tb Tryz.prog := { T := [Y2, Y25], mix := mix, Es := [E_impl_circleHull], Bs := [], d := 1 }
noncomputable def t_impl_SinI (a0 : Iv) : Tr (Iv) :=
  .leaf (F_impl_circleHull a0 ⟨0, rfl⟩)
theorem r_impl_SinI (a0 : Iv) : Tb83.run B83 [enc a0] (Iv) = (t_impl_SinI a0).opt := by kernel_rfl
noncomputable def F_impl_SinI : Iv → Iv := fun a0 => (t_impl_SinI a0).get
theorem u_impl_SinI (a0 : Iv) : (t_impl_SinI a0).opt = some (F_impl_SinI a0) := Tr.tot_get (by kernel_rfl)
noncomputable def E_impl_SinI : Ent Tryz.prog := .of1 Tb83 B83 (fun _ => true) F_impl_SinI fun a0 _ => (r_impl_SinI a0).trans (u_impl_SinI a0)
noncomputable def B151 : Bod Tryz.prog := ⟨151, Tryz.f151, Tryz.f151.body.getD .skip, Tryz.func151, by kernel_rfl, by kernel_rfl, Loops.no _ _⟩
noncomputable def Tb151 : Tb Tryz.prog := { T := [], mix := mix, Es := [], Bs := [], d := 1 }
noncomputable def t_spec_l07Fix (a0 : I64) : Tr (Bool) :=
  .br (decide ((-1152921504606846976) < a0.val)) (.leaf (decide (a0.val < 1152921504606846976))) (.leaf false)
theorem r_spec_l07Fix (a0 : I64) : Tb151.run B151 [enc a0] (Bool) = (t_spec_l07Fix a0).opt := by kernel_rfl
noncomputable def F_spec_l07Fix : I64 → Bool := fun a0 => (t_spec_l07Fix a0).get
theorem u_spec_l07Fix (a0 : I64) : (t_spec_l07Fix a0).opt = some (F_spec_l07Fix a0) := Tr.tot_get (by kernel_rfl)
noncomputable def E_spec_l07Fix : Ent Tryz.prog := .of1 Tb151 B151 (fun _ => true) F_spec_l07Fix fun a0 _ => (r_spec_l07Fix a0).trans (u_spec_l07Fix a0)
noncomputable def B191 : Bod Tryz.prog := ⟨191, Tryz.f191, Tryz.f191.body.getD .skip, Tryz.func191, by kernel_rfl, by kernel_rfl, Loops.no _ _⟩
noncomputable def Tb191 : Tb Tryz.prog := { T := [Y2, Y25], mix := mix, Es := [E_spec_l05Turn], Bs := [], d := 1 }
noncomputable def t_spec_l07Quarter : Tr (Iv) :=
  .br (G_spec_l05Turn ⟨1, rfl⟩) (.br (G_spec_l05Turn ⟨1, rfl⟩) (.leaf ⟨(Rng.w .i64 (0 - (F_spec_l05Turn ⟨1, rfl⟩).hi.val)), (F_spec_l05Turn ⟨1, rfl⟩).hi⟩) (.bad)) (.bad)
theorem r_spec_l07Quarter : Tb191.run B191 [] (Iv) = (t_spec_l07Quarter).opt := by kernel_rfl
noncomputable def F_spec_l07Quarter : Iv := (t_spec_l07Quarter).get
theorem u_spec_l07Quarter : (t_spec_l07Quarter).opt = some (F_spec_l07Quarter) := Tr.get_some (by kernel_rfl)
noncomputable def E_spec_l07Quarter : Ent Tryz.prog := .of0 Tb191 B191 F_spec_l07Quarter (r_spec_l07Quarter.trans u_spec_l07Quarter)
noncomputable def B245 : Bod Tryz.prog := ⟨245, Tryz.f245, Tryz.f245.body.getD .skip, Tryz.func245, by kernel_rfl, by kernel_rfl, Loops.no _ _⟩
noncomputable def Tb245 : Tb Tryz.prog := { T := [Y2, Y25], mix := mix, Es := [E_spec_Integer, E_spec_AddI, E_spec_DivI, E_spec_SqrI, ET_spec_SqrtI], Bs := [], d := 1 }
noncomputable def t_spec_l07Halve (a0 : Iv) : Tr (Iv) :=
  .leaf (F_spec_DivI a0 (F_spec_AddI (F_spec_Integer ⟨1, rfl⟩) (F_spec_SqrtI (F_spec_AddI (F_spec_Integer ⟨1, rfl⟩) (F_spec_SqrI a0)))))
theorem r_spec_l07Halve (a0 : Iv) : Tb245.run B245 [enc a0] (Iv) = (t_spec_l07Halve a0).opt := by kernel_rfl
noncomputable def F_spec_l07Halve : Iv → Iv := fun a0 => (t_spec_l07Halve a0).get
theorem u_spec_l07Halve (a0 : Iv) : (t_spec_l07Halve a0).opt = some (F_spec_l07Halve a0) := Tr.tot_get (by kernel_rfl)
noncomputable def E_spec_l07Halve : Ent Tryz.prog := .of1 Tb245 B245 (fun _ => true) F_spec_l07Halve fun a0 _ => (r_spec_l07Halve a0).trans (u_spec_l07Halve a0)
noncomputable def B244 : Bod Tryz.prog := ⟨244, Tryz.f244, Tryz.f244.body.getD .skip, Tryz.func244, by kernel_rfl, by kernel_rfl, Loops.no _ _⟩
noncomputable def Tb244 : Tb Tryz.prog := { T := [Y2, Y25], mix := mix, Es := [E_spec_MulI, E_spec_SubI, E_spec_AddI, E_spec_Whole, E_spec_InsideI, E_spec_SqrI, E_spec_l06Tiny, ET_spec_Quotient], Bs := [], d := 1 }
noncomputable def t_spec_ArcSeries (a0 : Iv) : Tr (Iv) :=
  .br (!(F_spec_InsideI a0 ⟨⟨(-1073741824), rfl⟩, ⟨1073741824, rfl⟩⟩)) (.leaf F_spec_Whole) (let c3 := F_spec_SqrI a0; .leaf (F_spec_AddI (F_spec_MulI a0 (F_spec_SubI (F_spec_Quotient ⟨1, rfl⟩ ⟨1, rfl⟩) (F_spec_MulI c3 (F_spec_SubI (F_spec_Quotient ⟨1, rfl⟩ ⟨3, rfl⟩) (F_spec_MulI c3 (F_spec_SubI (F_spec_Quotient ⟨1, rfl⟩ ⟨5, rfl⟩) (F_spec_MulI c3 (F_spec_SubI (F_spec_Quotient ⟨1, rfl⟩ ⟨7, rfl⟩) (F_spec_MulI c3 (F_spec_SubI (F_spec_Quotient ⟨1, rfl⟩ ⟨9, rfl⟩) (F_spec_MulI c3 (F_spec_SubI (F_spec_Quotient ⟨1, rfl⟩ ⟨11, rfl⟩) (F_spec_MulI c3 (F_spec_SubI (F_spec_Quotient ⟨1, rfl⟩ ⟨13, rfl⟩) (F_spec_MulI c3 (F_spec_SubI (F_spec_Quotient ⟨1, rfl⟩ ⟨15, rfl⟩) (F_spec_MulI c3 (F_spec_SubI (F_spec_Quotient ⟨1, rfl⟩ ⟨17, rfl⟩) (F_spec_MulI c3 (F_spec_SubI (F_spec_Quotient ⟨1, rfl⟩ ⟨19, rfl⟩) (F_spec_MulI c3 (F_spec_Quotient ⟨1, rfl⟩ ⟨21, rfl⟩)))))))))))))))))))))) F_spec_l06Tiny))
theorem r_spec_ArcSeries (a0 : Iv) : Tb244.run B244 [enc a0] (Iv) = (t_spec_ArcSeries a0).opt := by kernel_rfl
noncomputable def F_spec_ArcSeries : Iv → Iv := fun a0 => (t_spec_ArcSeries a0).get
theorem u_spec_ArcSeries (a0 : Iv) : (t_spec_ArcSeries a0).opt = some (F_spec_ArcSeries a0) := Tr.tot_get (by kernel_rfl)
noncomputable def E_spec_ArcSeries : Ent Tryz.prog := .of1 Tb244 B244 (fun _ => true) F_spec_ArcSeries fun a0 _ => (r_spec_ArcSeries a0).trans (u_spec_ArcSeries a0)
noncomputable def B243 : Bod Tryz.prog := ⟨243, Tryz.f243, Tryz.f243.body.getD .skip, Tryz.func243, by kernel_rfl, by kernel_rfl, Loops.no _ _⟩
noncomputable def Tb243 : Tb Tryz.prog := { T := [Y2, Y25], mix := mix, Es := [E_spec_l04Ok, E_spec_l04Whole, E_spec_l04Make], Bs := [], d := 1 }
noncomputable def t_spec_DoubleI (a0 : Iv) : Tr (Iv) :=
  .br (!(F_spec_l04Ok a0)) (.leaf F_spec_l04Whole) (.leaf (F_spec_l04Make (Rng.w .i64 (2 * a0.lo.val)) (Rng.w .i64 (2 * a0.hi.val))))
theorem r_spec_DoubleI (a0 : Iv) : Tb243.run B243 [enc a0] (Iv) = (t_spec_DoubleI a0).opt := by kernel_rfl
noncomputable def F_spec_DoubleI : Iv → Iv := fun a0 => (t_spec_DoubleI a0).get
theorem u_spec_DoubleI (a0 : Iv) : (t_spec_DoubleI a0).opt = some (F_spec_DoubleI a0) := Tr.tot_get (by kernel_rfl)
noncomputable def E_spec_DoubleI : Ent Tryz.prog := .of1 Tb243 B243 (fun _ => true) F_spec_DoubleI fun a0 _ => (r_spec_DoubleI a0).trans (u_spec_DoubleI a0)
noncomputable def B227 : Bod Tryz.prog := ⟨227, Tryz.f227, Tryz.f227.body.getD .skip, Tryz.func227, by kernel_rfl, by kernel_rfl, Loops.no _ _⟩
noncomputable def Tb227 : Tb Tryz.prog := { T := [Y2, Y25], mix := mix, Es := [E_spec_DoubleI, E_spec_ArcSeries, E_spec_l07Halve], Bs := [], d := 1 }
noncomputable def t_spec_l07Core (a0 : Iv) : Tr (Iv) :=
  .leaf (F_spec_DoubleI (F_spec_DoubleI (F_spec_ArcSeries (F_spec_l07Halve (F_spec_l07Halve a0)))))
theorem r_spec_l07Core (a0 : Iv) : Tb227.run B227 [enc a0] (Iv) = (t_spec_l07Core a0).opt := by kernel_rfl
noncomputable def F_spec_l07Core : Iv → Iv := fun a0 => (t_spec_l07Core a0).get
theorem u_spec_l07Core (a0 : Iv) : (t_spec_l07Core a0).opt = some (F_spec_l07Core a0) := Tr.tot_get (by kernel_rfl)
noncomputable def E_spec_l07Core : Ent Tryz.prog := .of1 Tb227 B227 (fun _ => true) F_spec_l07Core fun a0 _ => (r_spec_l07Core a0).trans (u_spec_l07Core a0)
noncomputable def B192 : Bod Tryz.prog := ⟨192, Tryz.f192, Tryz.f192.body.getD .skip, Tryz.func192, by kernel_rfl, by kernel_rfl, Loops.no _ _⟩
noncomputable def Tb192_p : Tb Tryz.prog := { T := [Y2, Y25], mix := mix, Es := [E_spec_Integer, E_spec_SubI, E_spec_DivI, E_spec_l07Fix, ET_spec_TurnI, E_spec_l05At, E_spec_l07Quarter, E_spec_l07Core], Bs := [], d := 1 }
noncomputable def t_spec_AtanAt_p (a0 : I64) : Tr (Iv) :=
  .br (!(F_spec_l07Fix a0)) (.leaf F_spec_l07Quarter) (.br (decide (a0.val < 0)) (.bad) (.br (decide (a0.val > 4294967296)) (.leaf (F_spec_SubI (F_spec_TurnI ⟨1, rfl⟩) (F_spec_l07Core (F_spec_DivI (F_spec_Integer ⟨1, rfl⟩) (F_spec_l05At a0))))) (.leaf (F_spec_l07Core (F_spec_l05At a0)))))
theorem r_spec_AtanAt_p (a0 : I64) : Tb192_p.run B192 [enc a0] (Iv) = (t_spec_AtanAt_p a0).opt := by kernel_rfl
noncomputable def F_spec_AtanAt_p : I64 → Iv := fun a0 => (t_spec_AtanAt_p a0).get
noncomputable def G_spec_AtanAt_p : I64 → Bool := fun a0 => (t_spec_AtanAt_p a0).opt.isSome
noncomputable def E_spec_AtanAt_p : Ent Tryz.prog := .of1 Tb192_p B192 G_spec_AtanAt_p F_spec_AtanAt_p fun a0 h => (r_spec_AtanAt_p a0).trans (Tr.get_some h)
noncomputable def Tb192 : Tb Tryz.prog := { T := [Y2, Y25], mix := mix, Es := [E_spec_Integer, E_spec_SubI, E_spec_DivI, E_spec_NegI, E_spec_l07Fix, ET_spec_TurnI, E_spec_l05At, E_spec_l07Quarter, E_spec_AtanAt_p, E_spec_l07Core], Bs := [], d := 1 }
noncomputable def t_spec_AtanAt (a0 : I64) : Tr (Iv) :=
  .br (!(F_spec_l07Fix a0)) (.leaf F_spec_l07Quarter) (.br (decide (a0.val < 0)) (let c3 := (Rng.w .i64 (0 - a0.val)); .br (G_spec_AtanAt_p c3) (.leaf (F_spec_NegI (F_spec_AtanAt_p c3))) (.bad)) (.br (decide (a0.val > 4294967296)) (.leaf (F_spec_SubI (F_spec_TurnI ⟨1, rfl⟩) (F_spec_l07Core (F_spec_DivI (F_spec_Integer ⟨1, rfl⟩) (F_spec_l05At a0))))) (.leaf (F_spec_l07Core (F_spec_l05At a0)))))
theorem r_spec_AtanAt (a0 : I64) : Tb192.run B192 [enc a0] (Iv) = (t_spec_AtanAt a0).opt := by kernel_rfl
noncomputable def F_spec_AtanAt : I64 → Iv := fun a0 => (t_spec_AtanAt a0).get
noncomputable def G_spec_AtanAt : I64 → Bool := fun a0 => (t_spec_AtanAt a0).opt.isSome
noncomputable def E_spec_AtanAt : Ent Tryz.prog := .of1 Tb192 B192 G_spec_AtanAt F_spec_AtanAt fun a0 h => (r_spec_AtanAt a0).trans (Tr.get_some h)
noncomputable def B155 : Bod Tryz.prog := ⟨155, Tryz.f155, Tryz.f155.body.getD .skip, Tryz.func155, by kernel_rfl, by kernel_rfl, Loops.no _ _⟩
noncomputable def Tb155 : Tb Tryz.prog := { T := [], mix := mix, Es := [], Bs := [], d := 1 }
noncomputable def t_impl_isOpen (a0 : I64) : Tr (Bool) :=
  .br (decide ((-1152921504606846976) < a0.val)) (.leaf (decide (a0.val < 1152921504606846976))) (.leaf false)
theorem r_impl_isOpen (a0 : I64) : Tb155.run B155 [enc a0] (Bool) = (t_impl_isOpen a0).opt := by kernel_rfl
noncomputable def F_impl_isOpen : I64 → Bool := fun a0 => (t_impl_isOpen a0).get
theorem u_impl_isOpen (a0 : I64) : (t_impl_isOpen a0).opt = some (F_impl_isOpen a0) := Tr.tot_get (by kernel_rfl)
noncomputable def E_impl_isOpen : Ent Tryz.prog := .of1 Tb155 B155 (fun _ => true) F_impl_isOpen fun a0 _ => (r_impl_isOpen a0).trans (u_impl_isOpen a0)
noncomputable def B193 : Bod Tryz.prog := ⟨193, Tryz.f193, Tryz.f193.body.getD .skip, Tryz.func193, by kernel_rfl, by kernel_rfl, Loops.no _ _⟩
noncomputable def Tb193 : Tb Tryz.prog := { T := [Y2, Y25], mix := mix, Es := [ET_impl_TurnI], Bs := [], d := 1 }
noncomputable def t_impl_halfCircle : Tr (Iv) :=
  .leaf ⟨(Rng.w .i64 (0 - (F_impl_TurnI ⟨1, rfl⟩).hi.val)), (F_impl_TurnI ⟨1, rfl⟩).hi⟩
theorem r_impl_halfCircle : Tb193.run B193 [] (Iv) = (t_impl_halfCircle).opt := by kernel_rfl
noncomputable def F_impl_halfCircle : Iv := (t_impl_halfCircle).get
theorem u_impl_halfCircle : (t_impl_halfCircle).opt = some (F_impl_halfCircle) := Tr.tot_get (by kernel_rfl)
noncomputable def E_impl_halfCircle : Ent Tryz.prog := .of0 Tb193 B193 F_impl_halfCircle (r_impl_halfCircle.trans u_impl_halfCircle)
noncomputable def B248 : Bod Tryz.prog := ⟨248, Tryz.f248, Tryz.f248.body.getD .skip, Tryz.func248, by kernel_rfl, by kernel_rfl, Loops.no _ _⟩
noncomputable def Tb248 : Tb Tryz.prog := { T := [Y2, Y25], mix := mix, Es := [E_impl_Integer, E_impl_AddI, E_impl_DivI, ET_impl_SqrI, ET_impl_SqrtI], Bs := [], d := 1 }
noncomputable def t_impl_halved (a0 : Iv) : Tr (Iv) :=
  .leaf (F_impl_DivI a0 (F_impl_AddI (F_impl_Integer ⟨1, rfl⟩) (F_impl_SqrtI (F_impl_AddI (F_impl_Integer ⟨1, rfl⟩) (F_impl_SqrI a0)))))
theorem r_impl_halved (a0 : Iv) : Tb248.run B248 [enc a0] (Iv) = (t_impl_halved a0).opt := by kernel_rfl
noncomputable def F_impl_halved : Iv → Iv := fun a0 => (t_impl_halved a0).get
theorem u_impl_halved (a0 : Iv) : (t_impl_halved a0).opt = some (F_impl_halved a0) := Tr.tot_get (by kernel_rfl)
noncomputable def E_impl_halved : Ent Tryz.prog := .of1 Tb248 B248 (fun _ => true) F_impl_halved fun a0 _ => (r_impl_halved a0).trans (u_impl_halved a0)
noncomputable def B247 : Bod Tryz.prog := ⟨247, Tryz.f247, Tryz.f247.body.getD .skip, Tryz.func247, by kernel_rfl, by kernel_rfl, Loops.no _ _⟩
noncomputable def Tb247 : Tb Tryz.prog := { T := [Y2, Y25], mix := mix, Es := [E_impl_AddI, E_impl_SubI, ET_impl_MulI, E_impl_Whole, ET_impl_SqrI, ET_impl_Quotient, E_impl_InsideI, E_impl_tiny], Bs := [], d := 1 }
noncomputable def t_impl_ArcSeries (a0 : Iv) : Tr (Iv) :=
  .br (!(F_impl_InsideI a0 ⟨⟨(-1073741824), rfl⟩, ⟨1073741824, rfl⟩⟩)) (.leaf F_impl_Whole) (let c3 := F_impl_SqrI a0; .leaf (F_impl_AddI (F_impl_MulI a0 (F_impl_SubI (F_impl_Quotient ⟨1, rfl⟩ ⟨1, rfl⟩) (F_impl_MulI c3 (F_impl_SubI (F_impl_Quotient ⟨1, rfl⟩ ⟨3, rfl⟩) (F_impl_MulI c3 (F_impl_SubI (F_impl_Quotient ⟨1, rfl⟩ ⟨5, rfl⟩) (F_impl_MulI c3 (F_impl_SubI (F_impl_Quotient ⟨1, rfl⟩ ⟨7, rfl⟩) (F_impl_MulI c3 (F_impl_SubI (F_impl_Quotient ⟨1, rfl⟩ ⟨9, rfl⟩) (F_impl_MulI c3 (F_impl_SubI (F_impl_Quotient ⟨1, rfl⟩ ⟨11, rfl⟩) (F_impl_MulI c3 (F_impl_SubI (F_impl_Quotient ⟨1, rfl⟩ ⟨13, rfl⟩) (F_impl_MulI c3 (F_impl_SubI (F_impl_Quotient ⟨1, rfl⟩ ⟨15, rfl⟩) (F_impl_MulI c3 (F_impl_SubI (F_impl_Quotient ⟨1, rfl⟩ ⟨17, rfl⟩) (F_impl_MulI c3 (F_impl_SubI (F_impl_Quotient ⟨1, rfl⟩ ⟨19, rfl⟩) (F_impl_MulI c3 (F_impl_Quotient ⟨1, rfl⟩ ⟨21, rfl⟩)))))))))))))))))))))) F_impl_tiny))
theorem r_impl_ArcSeries (a0 : Iv) : Tb247.run B247 [enc a0] (Iv) = (t_impl_ArcSeries a0).opt := by kernel_rfl
noncomputable def F_impl_ArcSeries : Iv → Iv := fun a0 => (t_impl_ArcSeries a0).get
theorem u_impl_ArcSeries (a0 : Iv) : (t_impl_ArcSeries a0).opt = some (F_impl_ArcSeries a0) := Tr.tot_get (by kernel_rfl)
noncomputable def E_impl_ArcSeries : Ent Tryz.prog := .of1 Tb247 B247 (fun _ => true) F_impl_ArcSeries fun a0 _ => (r_impl_ArcSeries a0).trans (u_impl_ArcSeries a0)
noncomputable def B246 : Bod Tryz.prog := ⟨246, Tryz.f246, Tryz.f246.body.getD .skip, Tryz.func246, by kernel_rfl, by kernel_rfl, Loops.no _ _⟩
noncomputable def Tb246 : Tb Tryz.prog := { T := [Y2, Y25], mix := mix, Es := [E_impl_AddI], Bs := [], d := 1 }
noncomputable def t_impl_DoubleI (a0 : Iv) : Tr (Iv) :=
  .leaf (F_impl_AddI a0 a0)
theorem r_impl_DoubleI (a0 : Iv) : Tb246.run B246 [enc a0] (Iv) = (t_impl_DoubleI a0).opt := by kernel_rfl
noncomputable def F_impl_DoubleI : Iv → Iv := fun a0 => (t_impl_DoubleI a0).get
theorem u_impl_DoubleI (a0 : Iv) : (t_impl_DoubleI a0).opt = some (F_impl_DoubleI a0) := Tr.tot_get (by kernel_rfl)
noncomputable def E_impl_DoubleI : Ent Tryz.prog := .of1 Tb246 B246 (fun _ => true) F_impl_DoubleI fun a0 _ => (r_impl_DoubleI a0).trans (u_impl_DoubleI a0)
noncomputable def B228 : Bod Tryz.prog := ⟨228, Tryz.f228, Tryz.f228.body.getD .skip, Tryz.func228, by kernel_rfl, by kernel_rfl, Loops.no _ _⟩
noncomputable def Tb228 : Tb Tryz.prog := { T := [Y2, Y25], mix := mix, Es := [E_impl_DoubleI, E_impl_ArcSeries, E_impl_halved], Bs := [], d := 1 }
noncomputable def t_impl_fourfold (a0 : Iv) : Tr (Iv) :=
  .leaf (F_impl_DoubleI (F_impl_DoubleI (F_impl_ArcSeries (F_impl_halved (F_impl_halved a0)))))
theorem r_impl_fourfold (a0 : Iv) : Tb228.run B228 [enc a0] (Iv) = (t_impl_fourfold a0).opt := by kernel_rfl
noncomputable def F_impl_fourfold : Iv → Iv := fun a0 => (t_impl_fourfold a0).get
theorem u_impl_fourfold (a0 : Iv) : (t_impl_fourfold a0).opt = some (F_impl_fourfold a0) := Tr.tot_get (by kernel_rfl)
noncomputable def E_impl_fourfold : Ent Tryz.prog := .of1 Tb228 B228 (fun _ => true) F_impl_fourfold fun a0 _ => (r_impl_fourfold a0).trans (u_impl_fourfold a0)
noncomputable def B194 : Bod Tryz.prog := ⟨194, Tryz.f194, Tryz.f194.body.getD .skip, Tryz.func194, by kernel_rfl, by kernel_rfl, Loops.no _ _⟩
noncomputable def Tb194_p : Tb Tryz.prog := { T := [Y2, Y25], mix := mix, Es := [E_impl_Integer, E_impl_SubI, E_impl_DivI, E_impl_at, E_impl_isOpen, ET_impl_TurnI, E_impl_halfCircle, E_impl_fourfold], Bs := [], d := 1 }
noncomputable def t_impl_AtanAt_p (a0 : I64) : Tr (Iv) :=
  .br (!(F_impl_isOpen a0)) (.leaf F_impl_halfCircle) (.br (decide (a0.val < 0)) (.bad) (.br (decide (a0.val > 4294967296)) (.leaf (F_impl_SubI (F_impl_TurnI ⟨1, rfl⟩) (F_impl_fourfold (F_impl_DivI (F_impl_Integer ⟨1, rfl⟩) (F_impl_at a0))))) (.leaf (F_impl_fourfold (F_impl_at a0)))))
theorem r_impl_AtanAt_p (a0 : I64) : Tb194_p.run B194 [enc a0] (Iv) = (t_impl_AtanAt_p a0).opt := by kernel_rfl
noncomputable def F_impl_AtanAt_p : I64 → Iv := fun a0 => (t_impl_AtanAt_p a0).get
noncomputable def G_impl_AtanAt_p : I64 → Bool := fun a0 => (t_impl_AtanAt_p a0).opt.isSome
noncomputable def E_impl_AtanAt_p : Ent Tryz.prog := .of1 Tb194_p B194 G_impl_AtanAt_p F_impl_AtanAt_p fun a0 h => (r_impl_AtanAt_p a0).trans (Tr.get_some h)
noncomputable def Tb194 : Tb Tryz.prog := { T := [Y2, Y25], mix := mix, Es := [E_impl_Integer, E_impl_SubI, E_impl_DivI, E_impl_NegI, E_impl_at, E_impl_isOpen, ET_impl_TurnI, E_impl_halfCircle, E_impl_AtanAt_p, E_impl_fourfold], Bs := [], d := 1 }
noncomputable def t_impl_AtanAt (a0 : I64) : Tr (Iv) :=
  .br (!(F_impl_isOpen a0)) (.leaf F_impl_halfCircle) (.br (decide (a0.val < 0)) (let c3 := (Rng.w .i64 (0 - a0.val)); .br (G_impl_AtanAt_p c3) (.leaf (F_impl_NegI (F_impl_AtanAt_p c3))) (.bad)) (.br (decide (a0.val > 4294967296)) (.leaf (F_impl_SubI (F_impl_TurnI ⟨1, rfl⟩) (F_impl_fourfold (F_impl_DivI (F_impl_Integer ⟨1, rfl⟩) (F_impl_at a0))))) (.leaf (F_impl_fourfold (F_impl_at a0)))))
theorem r_impl_AtanAt (a0 : I64) : Tb194.run B194 [enc a0] (Iv) = (t_impl_AtanAt a0).opt := by kernel_rfl
noncomputable def F_impl_AtanAt : I64 → Iv := fun a0 => (t_impl_AtanAt a0).get
noncomputable def G_impl_AtanAt : I64 → Bool := fun a0 => (t_impl_AtanAt a0).opt.isSome
noncomputable def E_impl_AtanAt : Ent Tryz.prog := .of1 Tb194 B194 G_impl_AtanAt F_impl_AtanAt fun a0 h => (r_impl_AtanAt a0).trans (Tr.get_some h)
noncomputable def B254 : Bod Tryz.prog := ⟨254, Tryz.f254, Tryz.f254.body.getD .skip, Tryz.func254, by kernel_rfl, by kernel_rfl, Loops.no _ _⟩
noncomputable def Tb254_p : Tb Tryz.prog := { T := [Y2, Y25], mix := mix, Es := [E_spec_l00In, E_spec_l04Whole, E_spec_l04Make, E_spec_MulFloor], Bs := [], d := 1 }
noncomputable def t_spec_LogTwoI_p (a0 : I64) : Tr (Iv) :=
  .br (!(F_spec_l00In a0 ⟨(-64), rfl⟩ ⟨64, rfl⟩)) (.leaf F_spec_l04Whole) (.br (decide (a0.val < 0)) (.bad) (.leaf (F_spec_l04Make (F_spec_MulFloor a0 ⟨1598288580650331957, rfl⟩ ⟨29, rfl⟩).a (Rng.w .i64 (0 - (F_spec_MulFloor (Rng.w .i64 (0 - a0.val)) ⟨1598288580650331958, rfl⟩ ⟨29, rfl⟩).a.val)))))
theorem r_spec_LogTwoI_p (a0 : I64) : Tb254_p.run B254 [enc a0] (Iv) = (t_spec_LogTwoI_p a0).opt := by kernel_rfl
noncomputable def F_spec_LogTwoI_p : I64 → Iv := fun a0 => (t_spec_LogTwoI_p a0).get
noncomputable def G_spec_LogTwoI_p : I64 → Bool := fun a0 => (t_spec_LogTwoI_p a0).opt.isSome
noncomputable def E_spec_LogTwoI_p : Ent Tryz.prog := .of1 Tb254_p B254 G_spec_LogTwoI_p F_spec_LogTwoI_p fun a0 h => (r_spec_LogTwoI_p a0).trans (Tr.get_some h)
noncomputable def Tb254 : Tb Tryz.prog := { T := [Y2, Y25], mix := mix, Es := [E_spec_l00In, E_spec_l04Whole, E_spec_l04Make, E_spec_NegI, E_spec_MulFloor, E_spec_LogTwoI_p], Bs := [], d := 1 }
noncomputable def t_spec_LogTwoI (a0 : I64) : Tr (Iv) :=
  .br (!(F_spec_l00In a0 ⟨(-64), rfl⟩ ⟨64, rfl⟩)) (.leaf F_spec_l04Whole) (.br (decide (a0.val < 0)) (let c3 := (Rng.w .i64 (0 - a0.val)); .br (G_spec_LogTwoI_p c3) (.leaf (F_spec_NegI (F_spec_LogTwoI_p c3))) (.bad)) (.leaf (F_spec_l04Make (F_spec_MulFloor a0 ⟨1598288580650331957, rfl⟩ ⟨29, rfl⟩).a (Rng.w .i64 (0 - (F_spec_MulFloor (Rng.w .i64 (0 - a0.val)) ⟨1598288580650331958, rfl⟩ ⟨29, rfl⟩).a.val)))))
theorem r_spec_LogTwoI (a0 : I64) : Tb254.run B254 [enc a0] (Iv) = (t_spec_LogTwoI a0).opt := by kernel_rfl
noncomputable def F_spec_LogTwoI : I64 → Iv := fun a0 => (t_spec_LogTwoI a0).get
noncomputable def G_spec_LogTwoI : I64 → Bool := fun a0 => (t_spec_LogTwoI a0).opt.isSome
noncomputable def E_spec_LogTwoI : Ent Tryz.prog := .of1 Tb254 B254 G_spec_LogTwoI F_spec_LogTwoI fun a0 h => (r_spec_LogTwoI a0).trans (Tr.get_some h)
noncomputable def B222 : Bod Tryz.prog := ⟨222, Tryz.f222, Tryz.f222.body.getD .skip, Tryz.func222, by kernel_rfl, by kernel_rfl, Loops.no _ _⟩
noncomputable def Tb222_p : Tb Tryz.prog := { T := [Y2, Y25], mix := mix, Es := [E_impl_within, E_impl_Whole, ET_impl_MulFloor], Bs := [], d := 1 }
noncomputable def t_impl_LogTwoI_p (a0 : I64) : Tr (Iv) :=
  .br (!(F_impl_within a0 ⟨(-64), rfl⟩ ⟨64, rfl⟩)) (.leaf F_impl_Whole) (.br (decide (a0.val < 0)) (.bad) (.leaf ⟨(F_impl_MulFloor a0 ⟨1598288580650331957, rfl⟩ ⟨29, rfl⟩).a, (Rng.w .i64 (0 - (F_impl_MulFloor (Rng.w .i64 (0 - a0.val)) ⟨1598288580650331958, rfl⟩ ⟨29, rfl⟩).a.val))⟩))
theorem r_impl_LogTwoI_p (a0 : I64) : Tb222_p.run B222 [enc a0] (Iv) = (t_impl_LogTwoI_p a0).opt := by kernel_rfl
noncomputable def F_impl_LogTwoI_p : I64 → Iv := fun a0 => (t_impl_LogTwoI_p a0).get
noncomputable def G_impl_LogTwoI_p : I64 → Bool := fun a0 => (t_impl_LogTwoI_p a0).opt.isSome
noncomputable def E_impl_LogTwoI_p : Ent Tryz.prog := .of1 Tb222_p B222 G_impl_LogTwoI_p F_impl_LogTwoI_p fun a0 h => (r_impl_LogTwoI_p a0).trans (Tr.get_some h)
noncomputable def Tb222 : Tb Tryz.prog := { T := [Y2, Y25], mix := mix, Es := [E_impl_within, E_impl_Whole, E_impl_NegI, ET_impl_MulFloor, E_impl_LogTwoI_p], Bs := [], d := 1 }
noncomputable def t_impl_LogTwoI (a0 : I64) : Tr (Iv) :=
  .br (!(F_impl_within a0 ⟨(-64), rfl⟩ ⟨64, rfl⟩)) (.leaf F_impl_Whole) (.br (decide (a0.val < 0)) (let c3 := (Rng.w .i64 (0 - a0.val)); .br (G_impl_LogTwoI_p c3) (.leaf (F_impl_NegI (F_impl_LogTwoI_p c3))) (.bad)) (.leaf ⟨(F_impl_MulFloor a0 ⟨1598288580650331957, rfl⟩ ⟨29, rfl⟩).a, (Rng.w .i64 (0 - (F_impl_MulFloor (Rng.w .i64 (0 - a0.val)) ⟨1598288580650331958, rfl⟩ ⟨29, rfl⟩).a.val))⟩))
theorem r_impl_LogTwoI (a0 : I64) : Tb222.run B222 [enc a0] (Iv) = (t_impl_LogTwoI a0).opt := by kernel_rfl
noncomputable def F_impl_LogTwoI : I64 → Iv := fun a0 => (t_impl_LogTwoI a0).get
noncomputable def G_impl_LogTwoI : I64 → Bool := fun a0 => (t_impl_LogTwoI a0).opt.isSome
noncomputable def E_impl_LogTwoI : Ent Tryz.prog := .of1 Tb222 B222 G_impl_LogTwoI F_impl_LogTwoI fun a0 h => (r_impl_LogTwoI a0).trans (Tr.get_some h)
noncomputable def Y27 : TyE Tryz.prog := ⟨27, 6, (.struct [(0, 25, 2), (2, 25, 2), (4, 25, 2)]), [.i64 ⟨0, rfl⟩, .i64 ⟨0, rfl⟩, .i64 ⟨0, rfl⟩, .i64 ⟨0, rfl⟩, .i64 ⟨0, rfl⟩, .i64 ⟨0, rfl⟩], false, by kernel_rfl, by kernel_rfl, by kernel_rfl, by kernel_rfl, by kernel_rfl, by kernel_rfl⟩
noncomputable def B78 : Bod Tryz.prog := ⟨78, Tryz.f78, Tryz.f78.body.getD .skip, Tryz.func78, by kernel_rfl, by kernel_rfl, Loops.no _ _⟩
noncomputable def Tb78 : Tb Tryz.prog := { T := [Y2, Y25, Y27], mix := mix, Es := [E_spec_AddI], Bs := [], d := 1 }
noncomputable def t_spec_AddV (a0 : Vec) (a1 : Vec) : Tr (Vec) :=
  .leaf ⟨(F_spec_AddI a0.x a1.x), (F_spec_AddI a0.y a1.y), (F_spec_AddI a0.z a1.z)⟩
theorem r_spec_AddV (a0 : Vec) (a1 : Vec) : Tb78.run B78 [enc a0, enc a1] (Vec) = (t_spec_AddV a0 a1).opt := by kernel_rfl
noncomputable def F_spec_AddV : Vec → Vec → Vec := fun a0 a1 => (t_spec_AddV a0 a1).get
theorem u_spec_AddV (a0 : Vec) (a1 : Vec) : (t_spec_AddV a0 a1).opt = some (F_spec_AddV a0 a1) := Tr.tot_get (by kernel_rfl)
noncomputable def E_spec_AddV : Ent Tryz.prog := .of2 Tb78 B78 (fun _ _ => true) F_spec_AddV fun a0 a1 _ => (r_spec_AddV a0 a1).trans (u_spec_AddV a0 a1)
noncomputable def B79 : Bod Tryz.prog := ⟨79, Tryz.f79, Tryz.f79.body.getD .skip, Tryz.func79, by kernel_rfl, by kernel_rfl, Loops.no _ _⟩
noncomputable def Tb79 : Tb Tryz.prog := { T := [Y2, Y25, Y27], mix := mix, Es := [E_impl_AddI], Bs := [], d := 1 }
noncomputable def t_impl_AddV (a0 : Vec) (a1 : Vec) : Tr (Vec) :=
  .leaf ⟨(F_impl_AddI a0.x a1.x), (F_impl_AddI a0.y a1.y), (F_impl_AddI a0.z a1.z)⟩
theorem r_impl_AddV (a0 : Vec) (a1 : Vec) : Tb79.run B79 [enc a0, enc a1] (Vec) = (t_impl_AddV a0 a1).opt := by kernel_rfl
noncomputable def F_impl_AddV : Vec → Vec → Vec := fun a0 a1 => (t_impl_AddV a0 a1).get
theorem u_impl_AddV (a0 : Vec) (a1 : Vec) : (t_impl_AddV a0 a1).opt = some (F_impl_AddV a0 a1) := Tr.tot_get (by kernel_rfl)
noncomputable def E_impl_AddV : Ent Tryz.prog := .of2 Tb79 B79 (fun _ _ => true) F_impl_AddV fun a0 a1 _ => (r_impl_AddV a0 a1).trans (u_impl_AddV a0 a1)
end
end Go.Proofs.YtjfkljhgbomkiaaGreat.Ev
