import Derived.Test.YtecfhpgpojgjkaaGreatW4
import Derived.Test.YtecfhpgpojgjkaaGreatP11
namespace Go.Proofs.YtecfhpgpojgjkaaGreat.Ev
open Go Go.RowKit
set_option maxRecDepth 100000
set_option linter.unusedVariables false
section
noncomputable def ET_spec_l06Over : Ent Tryz.prog := .of2 Tb167 B167 (fun _ _ => true) F_spec_l06Over fun a0 a1 _ => (r_spec_l06Over a0 a1).trans (tt_over_spec a0 a1)
noncomputable def B63 : Bod Tryz.prog := ⟨63, Tryz.f63, Tryz.f63.body.getD .skip, Tryz.func63, by kernel_rfl, by kernel_rfl, Loops.no _ _⟩
noncomputable def Tb63 : Tb Tryz.prog := { T := [Y2, Y27], mix := mix, Es := [ET_spec_l06Over], Bs := [], d := 1 }
noncomputable def t_spec_CosI (a0 : Iv) : Tr (Iv) :=
  .leaf (F_spec_l06Over a0 ⟨1, rfl⟩)
theorem r_spec_CosI (a0 : Iv) : Tb63.run B63 [enc a0] (Iv) = (t_spec_CosI a0).opt := by kernel_rfl
noncomputable def F_spec_CosI : Iv → Iv := fun a0 => (t_spec_CosI a0).get
theorem u_spec_CosI (a0 : Iv) : (t_spec_CosI a0).opt = some (F_spec_CosI a0) := Tr.tot_get (by kernel_rfl)
noncomputable def E_spec_CosI : Ent Tryz.prog := .of1 Tb63 B63 (fun _ => true) F_spec_CosI fun a0 _ => (r_spec_CosI a0).trans (u_spec_CosI a0)
noncomputable def B77 : Bod Tryz.prog := ⟨77, Tryz.f77, Tryz.f77.body.getD .skip, Tryz.func77, by kernel_rfl, by kernel_rfl, Loops.no _ _⟩
noncomputable def Tb77 : Tb Tryz.prog := { T := [Y2, Y27], mix := mix, Es := [E_impl_circleHull], Bs := [], d := 1 }
noncomputable def t_impl_CosI (a0 : Iv) : Tr (Iv) :=
  .leaf (F_impl_circleHull a0 ⟨1, rfl⟩)
theorem r_impl_CosI (a0 : Iv) : Tb77.run B77 [enc a0] (Iv) = (t_impl_CosI a0).opt := by kernel_rfl
noncomputable def F_impl_CosI : Iv → Iv := fun a0 => (t_impl_CosI a0).get
theorem u_impl_CosI (a0 : Iv) : (t_impl_CosI a0).opt = some (F_impl_CosI a0) := Tr.tot_get (by kernel_rfl)
noncomputable def E_impl_CosI : Ent Tryz.prog := .of1 Tb77 B77 (fun _ => true) F_impl_CosI fun a0 _ => (r_impl_CosI a0).trans (u_impl_CosI a0)
noncomputable def B70 : Bod Tryz.prog := ⟨70, Tryz.f70, Tryz.f70.body.getD .skip, Tryz.func70, by kernel_rfl, by kernel_rfl, Loops.no _ _⟩
noncomputable def Tb70 : Tb Tryz.prog := { T := [Y2, Y27], mix := mix, Es := [ET_spec_l06Over], Bs := [], d := 1 }
noncomputable def t_spec_SinI (a0 : Iv) : Tr (Iv) :=
  .leaf (F_spec_l06Over a0 ⟨0, rfl⟩)
theorem r_spec_SinI (a0 : Iv) : Tb70.run B70 [enc a0] (Iv) = (t_spec_SinI a0).opt := by kernel_rfl
noncomputable def F_spec_SinI : Iv → Iv := fun a0 => (t_spec_SinI a0).get
theorem u_spec_SinI (a0 : Iv) : (t_spec_SinI a0).opt = some (F_spec_SinI a0) := Tr.tot_get (by kernel_rfl)
noncomputable def E_spec_SinI : Ent Tryz.prog := .of1 Tb70 B70 (fun _ => true) F_spec_SinI fun a0 _ => (r_spec_SinI a0).trans (u_spec_SinI a0)
noncomputable def B82 : Bod Tryz.prog := ⟨82, Tryz.f82, Tryz.f82.body.getD .skip, Tryz.func82, by kernel_rfl, by kernel_rfl, Loops.no _ _⟩
noncomputable def Tb82 : Tb Tryz.prog := { T := [Y2, Y27], mix := mix, Es := [E_impl_circleHull], Bs := [], d := 1 }
noncomputable def t_impl_SinI (a0 : Iv) : Tr (Iv) :=
  .leaf (F_impl_circleHull a0 ⟨0, rfl⟩)
theorem r_impl_SinI (a0 : Iv) : Tb82.run B82 [enc a0] (Iv) = (t_impl_SinI a0).opt := by kernel_rfl
noncomputable def F_impl_SinI : Iv → Iv := fun a0 => (t_impl_SinI a0).get
theorem u_impl_SinI (a0 : Iv) : (t_impl_SinI a0).opt = some (F_impl_SinI a0) := Tr.tot_get (by kernel_rfl)
noncomputable def E_impl_SinI : Ent Tryz.prog := .of1 Tb82 B82 (fun _ => true) F_impl_SinI fun a0 _ => (r_impl_SinI a0).trans (u_impl_SinI a0)
noncomputable def B291 : Bod Tryz.prog := ⟨291, Tryz.f291, Tryz.f291.body.getD .skip, Tryz.func291, by kernel_rfl, by kernel_rfl, Loops.no _ _⟩
noncomputable def Tb291 : Tb Tryz.prog := { T := [], mix := mix, Es := [], Bs := [], d := 1 }
noncomputable def t_spec_l07Fix (a0 : I64) : Tr (Bool) :=
  .br (decide ((-1152921504606846976) < a0.val)) (.leaf (decide (a0.val < 1152921504606846976))) (.leaf false)
theorem r_spec_l07Fix (a0 : I64) : Tb291.run B291 [enc a0] (Bool) = (t_spec_l07Fix a0).opt := by kernel_rfl
noncomputable def F_spec_l07Fix : I64 → Bool := fun a0 => (t_spec_l07Fix a0).get
theorem u_spec_l07Fix (a0 : I64) : (t_spec_l07Fix a0).opt = some (F_spec_l07Fix a0) := Tr.tot_get (by kernel_rfl)
noncomputable def E_spec_l07Fix : Ent Tryz.prog := .of1 Tb291 B291 (fun _ => true) F_spec_l07Fix fun a0 _ => (r_spec_l07Fix a0).trans (u_spec_l07Fix a0)
noncomputable def B215 : Bod Tryz.prog := ⟨215, Tryz.f215, Tryz.f215.body.getD .skip, Tryz.func215, by kernel_rfl, by kernel_rfl, Loops.no _ _⟩
noncomputable def Tb215 : Tb Tryz.prog := { T := [Y2, Y27], mix := mix, Es := [E_spec_l05Turn], Bs := [], d := 1 }
noncomputable def t_spec_l07Quarter : Tr (Iv) :=
  .br (G_spec_l05Turn ⟨1, rfl⟩) (.br (G_spec_l05Turn ⟨1, rfl⟩) (.leaf ⟨(Rng.w .i64 (0 - (F_spec_l05Turn ⟨1, rfl⟩).hi.val)), (F_spec_l05Turn ⟨1, rfl⟩).hi⟩) (.bad)) (.bad)
theorem r_spec_l07Quarter : Tb215.run B215 [] (Iv) = (t_spec_l07Quarter).opt := by kernel_rfl
noncomputable def F_spec_l07Quarter : Iv := (t_spec_l07Quarter).get
theorem u_spec_l07Quarter : (t_spec_l07Quarter).opt = some (F_spec_l07Quarter) := Tr.get_some (by kernel_rfl)
noncomputable def E_spec_l07Quarter : Ent Tryz.prog := .of0 Tb215 B215 F_spec_l07Quarter (r_spec_l07Quarter.trans u_spec_l07Quarter)
noncomputable def B334 : Bod Tryz.prog := ⟨334, Tryz.f334, Tryz.f334.body.getD .skip, Tryz.func334, by kernel_rfl, by kernel_rfl, Loops.no _ _⟩
noncomputable def Tb334 : Tb Tryz.prog := { T := [Y2, Y27], mix := mix, Es := [E_spec_DivI, E_spec_Integer, E_spec_AddI, E_spec_SqrI, ET_spec_SqrtI], Bs := [], d := 1 }
noncomputable def t_spec_l07Halve (a0 : Iv) : Tr (Iv) :=
  .leaf (F_spec_DivI a0 (F_spec_AddI (F_spec_Integer ⟨1, rfl⟩) (F_spec_SqrtI (F_spec_AddI (F_spec_Integer ⟨1, rfl⟩) (F_spec_SqrI a0)))))
theorem r_spec_l07Halve (a0 : Iv) : Tb334.run B334 [enc a0] (Iv) = (t_spec_l07Halve a0).opt := by kernel_rfl
noncomputable def F_spec_l07Halve : Iv → Iv := fun a0 => (t_spec_l07Halve a0).get
theorem u_spec_l07Halve (a0 : Iv) : (t_spec_l07Halve a0).opt = some (F_spec_l07Halve a0) := Tr.tot_get (by kernel_rfl)
noncomputable def E_spec_l07Halve : Ent Tryz.prog := .of1 Tb334 B334 (fun _ => true) F_spec_l07Halve fun a0 _ => (r_spec_l07Halve a0).trans (u_spec_l07Halve a0)
noncomputable def B333 : Bod Tryz.prog := ⟨333, Tryz.f333, Tryz.f333.body.getD .skip, Tryz.func333, by kernel_rfl, by kernel_rfl, Loops.no _ _⟩
noncomputable def Tb333 : Tb Tryz.prog := { T := [Y2, Y27], mix := mix, Es := [E_spec_MulI, ET_spec_Quotient, E_spec_Whole, E_spec_SubI, E_spec_AddI, E_spec_SqrI, E_spec_InsideI, E_spec_l06Tiny], Bs := [], d := 1 }
noncomputable def t_spec_ArcSeries (a0 : Iv) : Tr (Iv) :=
  .br (!(F_spec_InsideI a0 ⟨⟨(-1073741824), rfl⟩, ⟨1073741824, rfl⟩⟩)) (.leaf F_spec_Whole) (let c3 := F_spec_SqrI a0; .leaf (F_spec_AddI (F_spec_MulI a0 (F_spec_SubI (F_spec_Quotient ⟨1, rfl⟩ ⟨1, rfl⟩) (F_spec_MulI c3 (F_spec_SubI (F_spec_Quotient ⟨1, rfl⟩ ⟨3, rfl⟩) (F_spec_MulI c3 (F_spec_SubI (F_spec_Quotient ⟨1, rfl⟩ ⟨5, rfl⟩) (F_spec_MulI c3 (F_spec_SubI (F_spec_Quotient ⟨1, rfl⟩ ⟨7, rfl⟩) (F_spec_MulI c3 (F_spec_SubI (F_spec_Quotient ⟨1, rfl⟩ ⟨9, rfl⟩) (F_spec_MulI c3 (F_spec_SubI (F_spec_Quotient ⟨1, rfl⟩ ⟨11, rfl⟩) (F_spec_MulI c3 (F_spec_SubI (F_spec_Quotient ⟨1, rfl⟩ ⟨13, rfl⟩) (F_spec_MulI c3 (F_spec_SubI (F_spec_Quotient ⟨1, rfl⟩ ⟨15, rfl⟩) (F_spec_MulI c3 (F_spec_SubI (F_spec_Quotient ⟨1, rfl⟩ ⟨17, rfl⟩) (F_spec_MulI c3 (F_spec_SubI (F_spec_Quotient ⟨1, rfl⟩ ⟨19, rfl⟩) (F_spec_MulI c3 (F_spec_Quotient ⟨1, rfl⟩ ⟨21, rfl⟩)))))))))))))))))))))) F_spec_l06Tiny))
theorem r_spec_ArcSeries (a0 : Iv) : Tb333.run B333 [enc a0] (Iv) = (t_spec_ArcSeries a0).opt := by kernel_rfl
noncomputable def F_spec_ArcSeries : Iv → Iv := fun a0 => (t_spec_ArcSeries a0).get
theorem u_spec_ArcSeries (a0 : Iv) : (t_spec_ArcSeries a0).opt = some (F_spec_ArcSeries a0) := Tr.tot_get (by kernel_rfl)
noncomputable def E_spec_ArcSeries : Ent Tryz.prog := .of1 Tb333 B333 (fun _ => true) F_spec_ArcSeries fun a0 _ => (r_spec_ArcSeries a0).trans (u_spec_ArcSeries a0)
noncomputable def B295 : Bod Tryz.prog := ⟨295, Tryz.f295, Tryz.f295.body.getD .skip, Tryz.func295, by kernel_rfl, by kernel_rfl, Loops.no _ _⟩
noncomputable def Tb295 : Tb Tryz.prog := { T := [Y2, Y27], mix := mix, Es := [E_spec_l04Ok, E_spec_l04Whole, E_spec_l04Make], Bs := [], d := 1 }
noncomputable def t_spec_DoubleI (a0 : Iv) : Tr (Iv) :=
  .br (!(F_spec_l04Ok a0)) (.leaf F_spec_l04Whole) (.leaf (F_spec_l04Make (Rng.w .i64 (2 * a0.lo.val)) (Rng.w .i64 (2 * a0.hi.val))))
theorem r_spec_DoubleI (a0 : Iv) : Tb295.run B295 [enc a0] (Iv) = (t_spec_DoubleI a0).opt := by kernel_rfl
noncomputable def F_spec_DoubleI : Iv → Iv := fun a0 => (t_spec_DoubleI a0).get
theorem u_spec_DoubleI (a0 : Iv) : (t_spec_DoubleI a0).opt = some (F_spec_DoubleI a0) := Tr.tot_get (by kernel_rfl)
noncomputable def E_spec_DoubleI : Ent Tryz.prog := .of1 Tb295 B295 (fun _ => true) F_spec_DoubleI fun a0 _ => (r_spec_DoubleI a0).trans (u_spec_DoubleI a0)
noncomputable def B292 : Bod Tryz.prog := ⟨292, Tryz.f292, Tryz.f292.body.getD .skip, Tryz.func292, by kernel_rfl, by kernel_rfl, Loops.no _ _⟩
noncomputable def Tb292 : Tb Tryz.prog := { T := [Y2, Y27], mix := mix, Es := [E_spec_DoubleI, E_spec_ArcSeries, E_spec_l07Halve], Bs := [], d := 1 }
noncomputable def t_spec_l07Core (a0 : Iv) : Tr (Iv) :=
  .leaf (F_spec_DoubleI (F_spec_DoubleI (F_spec_ArcSeries (F_spec_l07Halve (F_spec_l07Halve a0)))))
theorem r_spec_l07Core (a0 : Iv) : Tb292.run B292 [enc a0] (Iv) = (t_spec_l07Core a0).opt := by kernel_rfl
noncomputable def F_spec_l07Core : Iv → Iv := fun a0 => (t_spec_l07Core a0).get
theorem u_spec_l07Core (a0 : Iv) : (t_spec_l07Core a0).opt = some (F_spec_l07Core a0) := Tr.tot_get (by kernel_rfl)
noncomputable def E_spec_l07Core : Ent Tryz.prog := .of1 Tb292 B292 (fun _ => true) F_spec_l07Core fun a0 _ => (r_spec_l07Core a0).trans (u_spec_l07Core a0)
noncomputable def B216 : Bod Tryz.prog := ⟨216, Tryz.f216, Tryz.f216.body.getD .skip, Tryz.func216, by kernel_rfl, by kernel_rfl, Loops.no _ _⟩
noncomputable def Tb216_p : Tb Tryz.prog := { T := [Y2, Y27], mix := mix, Es := [E_spec_DivI, E_spec_Integer, E_spec_SubI, ET_spec_TurnI, E_spec_l07Quarter, E_spec_l07Fix, E_spec_l07Core, E_spec_l05At], Bs := [], d := 1 }
noncomputable def t_spec_AtanAt_p (a0 : I64) : Tr (Iv) :=
  .br (!(F_spec_l07Fix a0)) (.leaf F_spec_l07Quarter) (.br (decide (a0.val < 0)) (.bad) (.br (decide (a0.val > 4294967296)) (.leaf (F_spec_SubI (F_spec_TurnI ⟨1, rfl⟩) (F_spec_l07Core (F_spec_DivI (F_spec_Integer ⟨1, rfl⟩) (F_spec_l05At a0))))) (.leaf (F_spec_l07Core (F_spec_l05At a0)))))
theorem r_spec_AtanAt_p (a0 : I64) : Tb216_p.run B216 [enc a0] (Iv) = (t_spec_AtanAt_p a0).opt := by kernel_rfl
noncomputable def F_spec_AtanAt_p : I64 → Iv := fun a0 => (t_spec_AtanAt_p a0).get
noncomputable def G_spec_AtanAt_p : I64 → Bool := fun a0 => (t_spec_AtanAt_p a0).opt.isSome
noncomputable def E_spec_AtanAt_p : Ent Tryz.prog := .of1 Tb216_p B216 G_spec_AtanAt_p F_spec_AtanAt_p fun a0 h => (r_spec_AtanAt_p a0).trans (Tr.get_some h)
noncomputable def Tb216 : Tb Tryz.prog := { T := [Y2, Y27], mix := mix, Es := [E_spec_DivI, E_spec_Integer, E_spec_NegI, E_spec_SubI, ET_spec_TurnI, E_spec_l07Quarter, E_spec_AtanAt_p, E_spec_l07Fix, E_spec_l07Core, E_spec_l05At], Bs := [], d := 1 }
noncomputable def t_spec_AtanAt (a0 : I64) : Tr (Iv) :=
  .br (!(F_spec_l07Fix a0)) (.leaf F_spec_l07Quarter) (.br (decide (a0.val < 0)) (let c3 := (Rng.w .i64 (0 - a0.val)); .br (G_spec_AtanAt_p c3) (.leaf (F_spec_NegI (F_spec_AtanAt_p c3))) (.bad)) (.br (decide (a0.val > 4294967296)) (.leaf (F_spec_SubI (F_spec_TurnI ⟨1, rfl⟩) (F_spec_l07Core (F_spec_DivI (F_spec_Integer ⟨1, rfl⟩) (F_spec_l05At a0))))) (.leaf (F_spec_l07Core (F_spec_l05At a0)))))
theorem r_spec_AtanAt (a0 : I64) : Tb216.run B216 [enc a0] (Iv) = (t_spec_AtanAt a0).opt := by kernel_rfl
noncomputable def F_spec_AtanAt : I64 → Iv := fun a0 => (t_spec_AtanAt a0).get
noncomputable def G_spec_AtanAt : I64 → Bool := fun a0 => (t_spec_AtanAt a0).opt.isSome
noncomputable def E_spec_AtanAt : Ent Tryz.prog := .of1 Tb216 B216 G_spec_AtanAt F_spec_AtanAt fun a0 h => (r_spec_AtanAt a0).trans (Tr.get_some h)
noncomputable def B297 : Bod Tryz.prog := ⟨297, Tryz.f297, Tryz.f297.body.getD .skip, Tryz.func297, by kernel_rfl, by kernel_rfl, Loops.no _ _⟩
noncomputable def Tb297 : Tb Tryz.prog := { T := [], mix := mix, Es := [], Bs := [], d := 1 }
noncomputable def t_impl_isOpen (a0 : I64) : Tr (Bool) :=
  .br (decide ((-1152921504606846976) < a0.val)) (.leaf (decide (a0.val < 1152921504606846976))) (.leaf false)
theorem r_impl_isOpen (a0 : I64) : Tb297.run B297 [enc a0] (Bool) = (t_impl_isOpen a0).opt := by kernel_rfl
noncomputable def F_impl_isOpen : I64 → Bool := fun a0 => (t_impl_isOpen a0).get
theorem u_impl_isOpen (a0 : I64) : (t_impl_isOpen a0).opt = some (F_impl_isOpen a0) := Tr.tot_get (by kernel_rfl)
noncomputable def E_impl_isOpen : Ent Tryz.prog := .of1 Tb297 B297 (fun _ => true) F_impl_isOpen fun a0 _ => (r_impl_isOpen a0).trans (u_impl_isOpen a0)
noncomputable def B220 : Bod Tryz.prog := ⟨220, Tryz.f220, Tryz.f220.body.getD .skip, Tryz.func220, by kernel_rfl, by kernel_rfl, Loops.no _ _⟩
noncomputable def Tb220 : Tb Tryz.prog := { T := [Y2, Y27], mix := mix, Es := [ET_impl_TurnI], Bs := [], d := 1 }
noncomputable def t_impl_halfCircle : Tr (Iv) :=
  .leaf ⟨(Rng.w .i64 (0 - (F_impl_TurnI ⟨1, rfl⟩).hi.val)), (F_impl_TurnI ⟨1, rfl⟩).hi⟩
theorem r_impl_halfCircle : Tb220.run B220 [] (Iv) = (t_impl_halfCircle).opt := by kernel_rfl
noncomputable def F_impl_halfCircle : Iv := (t_impl_halfCircle).get
theorem u_impl_halfCircle : (t_impl_halfCircle).opt = some (F_impl_halfCircle) := Tr.tot_get (by kernel_rfl)
noncomputable def E_impl_halfCircle : Ent Tryz.prog := .of0 Tb220 B220 F_impl_halfCircle (r_impl_halfCircle.trans u_impl_halfCircle)
noncomputable def B339 : Bod Tryz.prog := ⟨339, Tryz.f339, Tryz.f339.body.getD .skip, Tryz.func339, by kernel_rfl, by kernel_rfl, Loops.no _ _⟩
noncomputable def Tb339 : Tb Tryz.prog := { T := [Y2, Y27], mix := mix, Es := [E_impl_DivI, E_impl_Integer, E_impl_AddI, ET_impl_SqrtI, ET_impl_SqrI], Bs := [], d := 1 }
noncomputable def t_impl_halved (a0 : Iv) : Tr (Iv) :=
  .leaf (F_impl_DivI a0 (F_impl_AddI (F_impl_Integer ⟨1, rfl⟩) (F_impl_SqrtI (F_impl_AddI (F_impl_Integer ⟨1, rfl⟩) (F_impl_SqrI a0)))))
theorem r_impl_halved (a0 : Iv) : Tb339.run B339 [enc a0] (Iv) = (t_impl_halved a0).opt := by kernel_rfl
noncomputable def F_impl_halved : Iv → Iv := fun a0 => (t_impl_halved a0).get
theorem u_impl_halved (a0 : Iv) : (t_impl_halved a0).opt = some (F_impl_halved a0) := Tr.tot_get (by kernel_rfl)
noncomputable def E_impl_halved : Ent Tryz.prog := .of1 Tb339 B339 (fun _ => true) F_impl_halved fun a0 _ => (r_impl_halved a0).trans (u_impl_halved a0)
noncomputable def B338 : Bod Tryz.prog := ⟨338, Tryz.f338, Tryz.f338.body.getD .skip, Tryz.func338, by kernel_rfl, by kernel_rfl, Loops.no _ _⟩
noncomputable def Tb338 : Tb Tryz.prog := { T := [Y2, Y27], mix := mix, Es := [ET_impl_MulI, ET_impl_Quotient, E_impl_Whole, E_impl_SubI, E_impl_AddI, ET_impl_SqrI, E_impl_InsideI, E_impl_tiny], Bs := [], d := 1 }
noncomputable def t_impl_ArcSeries (a0 : Iv) : Tr (Iv) :=
  .br (!(F_impl_InsideI a0 ⟨⟨(-1073741824), rfl⟩, ⟨1073741824, rfl⟩⟩)) (.leaf F_impl_Whole) (let c3 := F_impl_SqrI a0; .leaf (F_impl_AddI (F_impl_MulI a0 (F_impl_SubI (F_impl_Quotient ⟨1, rfl⟩ ⟨1, rfl⟩) (F_impl_MulI c3 (F_impl_SubI (F_impl_Quotient ⟨1, rfl⟩ ⟨3, rfl⟩) (F_impl_MulI c3 (F_impl_SubI (F_impl_Quotient ⟨1, rfl⟩ ⟨5, rfl⟩) (F_impl_MulI c3 (F_impl_SubI (F_impl_Quotient ⟨1, rfl⟩ ⟨7, rfl⟩) (F_impl_MulI c3 (F_impl_SubI (F_impl_Quotient ⟨1, rfl⟩ ⟨9, rfl⟩) (F_impl_MulI c3 (F_impl_SubI (F_impl_Quotient ⟨1, rfl⟩ ⟨11, rfl⟩) (F_impl_MulI c3 (F_impl_SubI (F_impl_Quotient ⟨1, rfl⟩ ⟨13, rfl⟩) (F_impl_MulI c3 (F_impl_SubI (F_impl_Quotient ⟨1, rfl⟩ ⟨15, rfl⟩) (F_impl_MulI c3 (F_impl_SubI (F_impl_Quotient ⟨1, rfl⟩ ⟨17, rfl⟩) (F_impl_MulI c3 (F_impl_SubI (F_impl_Quotient ⟨1, rfl⟩ ⟨19, rfl⟩) (F_impl_MulI c3 (F_impl_Quotient ⟨1, rfl⟩ ⟨21, rfl⟩)))))))))))))))))))))) F_impl_tiny))
theorem r_impl_ArcSeries (a0 : Iv) : Tb338.run B338 [enc a0] (Iv) = (t_impl_ArcSeries a0).opt := by kernel_rfl
noncomputable def F_impl_ArcSeries : Iv → Iv := fun a0 => (t_impl_ArcSeries a0).get
theorem u_impl_ArcSeries (a0 : Iv) : (t_impl_ArcSeries a0).opt = some (F_impl_ArcSeries a0) := Tr.tot_get (by kernel_rfl)
noncomputable def E_impl_ArcSeries : Ent Tryz.prog := .of1 Tb338 B338 (fun _ => true) F_impl_ArcSeries fun a0 _ => (r_impl_ArcSeries a0).trans (u_impl_ArcSeries a0)
noncomputable def B300 : Bod Tryz.prog := ⟨300, Tryz.f300, Tryz.f300.body.getD .skip, Tryz.func300, by kernel_rfl, by kernel_rfl, Loops.no _ _⟩
noncomputable def Tb300 : Tb Tryz.prog := { T := [Y2, Y27], mix := mix, Es := [E_impl_AddI], Bs := [], d := 1 }
noncomputable def t_impl_DoubleI (a0 : Iv) : Tr (Iv) :=
  .leaf (F_impl_AddI a0 a0)
theorem r_impl_DoubleI (a0 : Iv) : Tb300.run B300 [enc a0] (Iv) = (t_impl_DoubleI a0).opt := by kernel_rfl
noncomputable def F_impl_DoubleI : Iv → Iv := fun a0 => (t_impl_DoubleI a0).get
theorem u_impl_DoubleI (a0 : Iv) : (t_impl_DoubleI a0).opt = some (F_impl_DoubleI a0) := Tr.tot_get (by kernel_rfl)
noncomputable def E_impl_DoubleI : Ent Tryz.prog := .of1 Tb300 B300 (fun _ => true) F_impl_DoubleI fun a0 _ => (r_impl_DoubleI a0).trans (u_impl_DoubleI a0)
noncomputable def B298 : Bod Tryz.prog := ⟨298, Tryz.f298, Tryz.f298.body.getD .skip, Tryz.func298, by kernel_rfl, by kernel_rfl, Loops.no _ _⟩
noncomputable def Tb298 : Tb Tryz.prog := { T := [Y2, Y27], mix := mix, Es := [E_impl_DoubleI, E_impl_ArcSeries, E_impl_halved], Bs := [], d := 1 }
noncomputable def t_impl_fourfold (a0 : Iv) : Tr (Iv) :=
  .leaf (F_impl_DoubleI (F_impl_DoubleI (F_impl_ArcSeries (F_impl_halved (F_impl_halved a0)))))
theorem r_impl_fourfold (a0 : Iv) : Tb298.run B298 [enc a0] (Iv) = (t_impl_fourfold a0).opt := by kernel_rfl
noncomputable def F_impl_fourfold : Iv → Iv := fun a0 => (t_impl_fourfold a0).get
theorem u_impl_fourfold (a0 : Iv) : (t_impl_fourfold a0).opt = some (F_impl_fourfold a0) := Tr.tot_get (by kernel_rfl)
noncomputable def E_impl_fourfold : Ent Tryz.prog := .of1 Tb298 B298 (fun _ => true) F_impl_fourfold fun a0 _ => (r_impl_fourfold a0).trans (u_impl_fourfold a0)
noncomputable def B221 : Bod Tryz.prog := ⟨221, Tryz.f221, Tryz.f221.body.getD .skip, Tryz.func221, by kernel_rfl, by kernel_rfl, Loops.no _ _⟩
noncomputable def Tb221_p : Tb Tryz.prog := { T := [Y2, Y27], mix := mix, Es := [E_impl_DivI, E_impl_Integer, ET_impl_TurnI, E_impl_at, E_impl_SubI, E_impl_halfCircle, E_impl_isOpen, E_impl_fourfold], Bs := [], d := 1 }
noncomputable def t_impl_AtanAt_p (a0 : I64) : Tr (Iv) :=
  .br (!(F_impl_isOpen a0)) (.leaf F_impl_halfCircle) (.br (decide (a0.val < 0)) (.bad) (.br (decide (a0.val > 4294967296)) (.leaf (F_impl_SubI (F_impl_TurnI ⟨1, rfl⟩) (F_impl_fourfold (F_impl_DivI (F_impl_Integer ⟨1, rfl⟩) (F_impl_at a0))))) (.leaf (F_impl_fourfold (F_impl_at a0)))))
theorem r_impl_AtanAt_p (a0 : I64) : Tb221_p.run B221 [enc a0] (Iv) = (t_impl_AtanAt_p a0).opt := by kernel_rfl
noncomputable def F_impl_AtanAt_p : I64 → Iv := fun a0 => (t_impl_AtanAt_p a0).get
noncomputable def G_impl_AtanAt_p : I64 → Bool := fun a0 => (t_impl_AtanAt_p a0).opt.isSome
noncomputable def E_impl_AtanAt_p : Ent Tryz.prog := .of1 Tb221_p B221 G_impl_AtanAt_p F_impl_AtanAt_p fun a0 h => (r_impl_AtanAt_p a0).trans (Tr.get_some h)
noncomputable def Tb221 : Tb Tryz.prog := { T := [Y2, Y27], mix := mix, Es := [E_impl_DivI, E_impl_Integer, ET_impl_TurnI, E_impl_at, E_impl_NegI, E_impl_SubI, E_impl_halfCircle, E_impl_AtanAt_p, E_impl_isOpen, E_impl_fourfold], Bs := [], d := 1 }
noncomputable def t_impl_AtanAt (a0 : I64) : Tr (Iv) :=
  .br (!(F_impl_isOpen a0)) (.leaf F_impl_halfCircle) (.br (decide (a0.val < 0)) (let c3 := (Rng.w .i64 (0 - a0.val)); .br (G_impl_AtanAt_p c3) (.leaf (F_impl_NegI (F_impl_AtanAt_p c3))) (.bad)) (.br (decide (a0.val > 4294967296)) (.leaf (F_impl_SubI (F_impl_TurnI ⟨1, rfl⟩) (F_impl_fourfold (F_impl_DivI (F_impl_Integer ⟨1, rfl⟩) (F_impl_at a0))))) (.leaf (F_impl_fourfold (F_impl_at a0)))))
theorem r_impl_AtanAt (a0 : I64) : Tb221.run B221 [enc a0] (Iv) = (t_impl_AtanAt a0).opt := by kernel_rfl
noncomputable def F_impl_AtanAt : I64 → Iv := fun a0 => (t_impl_AtanAt a0).get
noncomputable def G_impl_AtanAt : I64 → Bool := fun a0 => (t_impl_AtanAt a0).opt.isSome
noncomputable def E_impl_AtanAt : Ent Tryz.prog := .of1 Tb221 B221 G_impl_AtanAt F_impl_AtanAt fun a0 h => (r_impl_AtanAt a0).trans (Tr.get_some h)
noncomputable def B273 : Bod Tryz.prog := ⟨273, Tryz.f273, Tryz.f273.body.getD .skip, Tryz.func273, by kernel_rfl, by kernel_rfl, Loops.no _ _⟩
noncomputable def Tb273_p : Tb Tryz.prog := { T := [Y2, Y27], mix := mix, Es := [E_spec_l00In, E_spec_l04Whole, E_spec_l04Make, E_spec_MulFloor], Bs := [], d := 1 }
noncomputable def t_spec_LogTwoI_p (a0 : I64) : Tr (Iv) :=
  .br (!(F_spec_l00In a0 ⟨(-64), rfl⟩ ⟨64, rfl⟩)) (.leaf F_spec_l04Whole) (.br (decide (a0.val < 0)) (.bad) (.leaf (F_spec_l04Make (F_spec_MulFloor a0 ⟨1598288580650331957, rfl⟩ ⟨29, rfl⟩).a (Rng.w .i64 (0 - (F_spec_MulFloor (Rng.w .i64 (0 - a0.val)) ⟨1598288580650331958, rfl⟩ ⟨29, rfl⟩).a.val)))))
theorem r_spec_LogTwoI_p (a0 : I64) : Tb273_p.run B273 [enc a0] (Iv) = (t_spec_LogTwoI_p a0).opt := by kernel_rfl
noncomputable def F_spec_LogTwoI_p : I64 → Iv := fun a0 => (t_spec_LogTwoI_p a0).get
noncomputable def G_spec_LogTwoI_p : I64 → Bool := fun a0 => (t_spec_LogTwoI_p a0).opt.isSome
noncomputable def E_spec_LogTwoI_p : Ent Tryz.prog := .of1 Tb273_p B273 G_spec_LogTwoI_p F_spec_LogTwoI_p fun a0 h => (r_spec_LogTwoI_p a0).trans (Tr.get_some h)
noncomputable def Tb273 : Tb Tryz.prog := { T := [Y2, Y27], mix := mix, Es := [E_spec_l00In, E_spec_l04Whole, E_spec_NegI, E_spec_l04Make, E_spec_MulFloor, E_spec_LogTwoI_p], Bs := [], d := 1 }
noncomputable def t_spec_LogTwoI (a0 : I64) : Tr (Iv) :=
  .br (!(F_spec_l00In a0 ⟨(-64), rfl⟩ ⟨64, rfl⟩)) (.leaf F_spec_l04Whole) (.br (decide (a0.val < 0)) (let c3 := (Rng.w .i64 (0 - a0.val)); .br (G_spec_LogTwoI_p c3) (.leaf (F_spec_NegI (F_spec_LogTwoI_p c3))) (.bad)) (.leaf (F_spec_l04Make (F_spec_MulFloor a0 ⟨1598288580650331957, rfl⟩ ⟨29, rfl⟩).a (Rng.w .i64 (0 - (F_spec_MulFloor (Rng.w .i64 (0 - a0.val)) ⟨1598288580650331958, rfl⟩ ⟨29, rfl⟩).a.val)))))
theorem r_spec_LogTwoI (a0 : I64) : Tb273.run B273 [enc a0] (Iv) = (t_spec_LogTwoI a0).opt := by kernel_rfl
noncomputable def F_spec_LogTwoI : I64 → Iv := fun a0 => (t_spec_LogTwoI a0).get
noncomputable def G_spec_LogTwoI : I64 → Bool := fun a0 => (t_spec_LogTwoI a0).opt.isSome
noncomputable def E_spec_LogTwoI : Ent Tryz.prog := .of1 Tb273 B273 G_spec_LogTwoI F_spec_LogTwoI fun a0 h => (r_spec_LogTwoI a0).trans (Tr.get_some h)
noncomputable def B208 : Bod Tryz.prog := ⟨208, Tryz.f208, Tryz.f208.body.getD .skip, Tryz.func208, by kernel_rfl, by kernel_rfl, Loops.no _ _⟩
noncomputable def Tb208_p : Tb Tryz.prog := { T := [Y2, Y27], mix := mix, Es := [E_impl_within, E_impl_Whole, ET_impl_MulFloor], Bs := [], d := 1 }
noncomputable def t_impl_LogTwoI_p (a0 : I64) : Tr (Iv) :=
  .br (!(F_impl_within a0 ⟨(-64), rfl⟩ ⟨64, rfl⟩)) (.leaf F_impl_Whole) (.br (decide (a0.val < 0)) (.bad) (.leaf ⟨(F_impl_MulFloor a0 ⟨1598288580650331957, rfl⟩ ⟨29, rfl⟩).a, (Rng.w .i64 (0 - (F_impl_MulFloor (Rng.w .i64 (0 - a0.val)) ⟨1598288580650331958, rfl⟩ ⟨29, rfl⟩).a.val))⟩))
theorem r_impl_LogTwoI_p (a0 : I64) : Tb208_p.run B208 [enc a0] (Iv) = (t_impl_LogTwoI_p a0).opt := by kernel_rfl
noncomputable def F_impl_LogTwoI_p : I64 → Iv := fun a0 => (t_impl_LogTwoI_p a0).get
noncomputable def G_impl_LogTwoI_p : I64 → Bool := fun a0 => (t_impl_LogTwoI_p a0).opt.isSome
noncomputable def E_impl_LogTwoI_p : Ent Tryz.prog := .of1 Tb208_p B208 G_impl_LogTwoI_p F_impl_LogTwoI_p fun a0 h => (r_impl_LogTwoI_p a0).trans (Tr.get_some h)
noncomputable def Tb208 : Tb Tryz.prog := { T := [Y2, Y27], mix := mix, Es := [E_impl_within, E_impl_Whole, E_impl_NegI, E_impl_LogTwoI_p, ET_impl_MulFloor], Bs := [], d := 1 }
noncomputable def t_impl_LogTwoI (a0 : I64) : Tr (Iv) :=
  .br (!(F_impl_within a0 ⟨(-64), rfl⟩ ⟨64, rfl⟩)) (.leaf F_impl_Whole) (.br (decide (a0.val < 0)) (let c3 := (Rng.w .i64 (0 - a0.val)); .br (G_impl_LogTwoI_p c3) (.leaf (F_impl_NegI (F_impl_LogTwoI_p c3))) (.bad)) (.leaf ⟨(F_impl_MulFloor a0 ⟨1598288580650331957, rfl⟩ ⟨29, rfl⟩).a, (Rng.w .i64 (0 - (F_impl_MulFloor (Rng.w .i64 (0 - a0.val)) ⟨1598288580650331958, rfl⟩ ⟨29, rfl⟩).a.val))⟩))
theorem r_impl_LogTwoI (a0 : I64) : Tb208.run B208 [enc a0] (Iv) = (t_impl_LogTwoI a0).opt := by kernel_rfl
noncomputable def F_impl_LogTwoI : I64 → Iv := fun a0 => (t_impl_LogTwoI a0).get
noncomputable def G_impl_LogTwoI : I64 → Bool := fun a0 => (t_impl_LogTwoI a0).opt.isSome
noncomputable def E_impl_LogTwoI : Ent Tryz.prog := .of1 Tb208 B208 G_impl_LogTwoI F_impl_LogTwoI fun a0 h => (r_impl_LogTwoI a0).trans (Tr.get_some h)
noncomputable def B337 : Bod Tryz.prog := ⟨337, Tryz.f337, Tryz.f337.body.getD .skip, Tryz.func337, by kernel_rfl, by kernel_rfl, Loops.no _ _⟩
noncomputable def Tb337 : Tb Tryz.prog := { T := [Y2, Y131, Y133], mix := mix, Es := [E_spec_l02Mul], Bs := [], d := 1 }
noncomputable def t_spec_WideMul (a0 : I64) (a1 : I64) : Tr (Wide) :=
  .leaf (F_spec_l02Mul a0 a1)
theorem r_spec_WideMul (a0 : I64) (a1 : I64) : Tb337.run B337 [enc a0, enc a1] (Wide) = (t_spec_WideMul a0 a1).opt := by kernel_rfl
noncomputable def F_spec_WideMul : I64 → I64 → Wide := fun a0 a1 => (t_spec_WideMul a0 a1).get
theorem u_spec_WideMul (a0 : I64) (a1 : I64) : (t_spec_WideMul a0 a1).opt = some (F_spec_WideMul a0 a1) := Tr.tot_get (by kernel_rfl)
noncomputable def E_spec_WideMul : Ent Tryz.prog := .of2 Tb337 B337 (fun _ _ => true) F_spec_WideMul fun a0 a1 _ => (r_spec_WideMul a0 a1).trans (u_spec_WideMul a0 a1)
noncomputable def B296 : Bod Tryz.prog := ⟨296, Tryz.f296, Tryz.f296.body.getD .skip, Tryz.func296, by kernel_rfl, by kernel_rfl, Loops.no _ _⟩
noncomputable def Tb296 : Tb Tryz.prog := { T := [Y2, Y27, Y131, Y133], mix := mix, Es := [E_spec_l00In, E_spec_Whole, ET_spec_SqrtFloor, E_spec_WideMul], Bs := [], d := 1 }
noncomputable def t_spec_CircleAt (a0 : I64) : Tr (Iv) :=
  .br (!(F_spec_l00In a0 ⟨(-4294967296), rfl⟩ ⟨4294967296, rfl⟩)) (.leaf F_spec_Whole) (let c3 := (Rng.w .i64 (4294967296 - a0.val)); let c4 := (Rng.w .i64 (4294967296 + a0.val)); let c5 := F_spec_SqrtFloor c3 c4; let c6 := F_spec_WideMul c5.a c5.a; let c7 := F_spec_WideMul c3 c4; .br (!((c6.hi.val == c7.hi.val) && ((c6.lo.val == c7.lo.val) && true))) (.leaf ⟨c5.a, (Rng.w .i64 (c5.a.val + 1))⟩) (.leaf ⟨c5.a, c5.a⟩))
theorem r_spec_CircleAt (a0 : I64) : Tb296.run B296 [enc a0] (Iv) = (t_spec_CircleAt a0).opt := by kernel_rfl
noncomputable def F_spec_CircleAt : I64 → Iv := fun a0 => (t_spec_CircleAt a0).get
theorem u_spec_CircleAt (a0 : I64) : (t_spec_CircleAt a0).opt = some (F_spec_CircleAt a0) := Tr.tot_get (by kernel_rfl)
noncomputable def E_spec_CircleAt : Ent Tryz.prog := .of1 Tb296 B296 (fun _ => true) F_spec_CircleAt fun a0 _ => (r_spec_CircleAt a0).trans (u_spec_CircleAt a0)
noncomputable def B301 : Bod Tryz.prog := ⟨301, Tryz.f301, Tryz.f301.body.getD .skip, Tryz.func301, by kernel_rfl, by kernel_rfl, Loops.no _ _⟩
noncomputable def Tb301 : Tb Tryz.prog := { T := [Y2, Y27, Y131, Y133], mix := mix, Es := [E_impl_within, E_impl_Whole, E_impl_at, E_impl_WideMul, ET_impl_SqrtFloor], Bs := [], d := 1 }
noncomputable def t_impl_CircleAt (a0 : I64) : Tr (Iv) :=
  .br (!(F_impl_within a0 ⟨(-4294967296), rfl⟩ ⟨4294967296, rfl⟩)) (.leaf F_impl_Whole) (let c5 := F_impl_SqrtFloor (Rng.w .i64 (4294967296 - a0.val)) (Rng.w .i64 (4294967296 + a0.val)); let c6 := F_impl_WideMul c5.a c5.a; let c9 := F_impl_WideMul (Rng.w .i64 (4294967296 - a0.val)) (Rng.w .i64 (4294967296 + a0.val)); .br ((c6.hi.val == c9.hi.val) && ((c6.lo.val == c9.lo.val) && true)) (.leaf (F_impl_at c5.a)) (.leaf ⟨c5.a, (Rng.w .i64 (c5.a.val + 1))⟩))
theorem r_impl_CircleAt (a0 : I64) : Tb301.run B301 [enc a0] (Iv) = (t_impl_CircleAt a0).opt := by kernel_rfl
noncomputable def F_impl_CircleAt : I64 → Iv := fun a0 => (t_impl_CircleAt a0).get
theorem u_impl_CircleAt (a0 : I64) : (t_impl_CircleAt a0).opt = some (F_impl_CircleAt a0) := Tr.tot_get (by kernel_rfl)
noncomputable def E_impl_CircleAt : Ent Tryz.prog := .of1 Tb301 B301 (fun _ => true) F_impl_CircleAt fun a0 _ => (r_impl_CircleAt a0).trans (u_impl_CircleAt a0)
end
end Go.Proofs.YtecfhpgpojgjkaaGreat.Ev
