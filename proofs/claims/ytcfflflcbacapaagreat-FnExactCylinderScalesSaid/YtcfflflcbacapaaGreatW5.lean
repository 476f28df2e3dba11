import Derived.Test.YtcfflflcbacapaaGreatW4
import Derived.Test.YtcfflflcbacapaaGreatP11
namespace Go.Proofs.YtcfflflcbacapaaGreat.Ev
open Go Go.RowKit
set_option maxRecDepth 100000
set_option linter.unusedVariables false
section
noncomputable def ET_spec_l06Over : Ent Tryz.prog := .of2 Tb167 B167 (fun _ _ => true) F_spec_l06Over fun a0 a1 _ => (r_spec_l06Over a0 a1).trans (tt_over_spec a0 a1)
noncomputable def B69 : Bod Tryz.prog := ⟨69, Tryz.f69, Tryz.f69.body.getD .skip, Tryz.func69, by kernel_rfl, by kernel_rfl, Loops.no _ _⟩
noncomputable def Tb69 : Tb Tryz.prog := { T := [Y2, Y27], mix := mix, Es := [ET_spec_l06Over], Bs := [], d := 1 }
noncomputable def t_spec_CosI (a0 : Iv) : Tr (Iv) :=
  .leaf (F_spec_l06Over a0 ⟨1, rfl⟩)
theorem r_spec_CosI (a0 : Iv) : Tb69.run B69 [enc a0] (Iv) = (t_spec_CosI a0).opt := by kernel_rfl
noncomputable def F_spec_CosI : Iv → Iv := fun a0 => (t_spec_CosI a0).get
theorem u_spec_CosI (a0 : Iv) : (t_spec_CosI a0).opt = some (F_spec_CosI a0) := Tr.tot_get (by kernel_rfl)
noncomputable def E_spec_CosI : Ent Tryz.prog := .of1 Tb69 B69 (fun _ => true) F_spec_CosI fun a0 _ => (r_spec_CosI a0).trans (u_spec_CosI a0)
noncomputable def B78 : Bod Tryz.prog := ⟨78, Tryz.f78, Tryz.f78.body.getD .skip, Tryz.func78, by kernel_rfl, by kernel_rfl, Loops.no _ _⟩
noncomputable def Tb78 : Tb Tryz.prog := { T := [Y2, Y27], mix := mix, Es := [E_impl_circleHull], Bs := [], d := 1 }
noncomputable def t_impl_CosI (a0 : Iv) : Tr (Iv) :=
  .leaf (F_impl_circleHull a0 ⟨1, rfl⟩)
theorem r_impl_CosI (a0 : Iv) : Tb78.run B78 [enc a0] (Iv) = (t_impl_CosI a0).opt := by kernel_rfl
noncomputable def F_impl_CosI : Iv → Iv := fun a0 => (t_impl_CosI a0).get
theorem u_impl_CosI (a0 : Iv) : (t_impl_CosI a0).opt = some (F_impl_CosI a0) := Tr.tot_get (by kernel_rfl)
noncomputable def E_impl_CosI : Ent Tryz.prog := .of1 Tb78 B78 (fun _ => true) F_impl_CosI fun a0 _ => (r_impl_CosI a0).trans (u_impl_CosI a0)
noncomputable def B102 : Bod Tryz.prog := ⟨102, Tryz.f102, Tryz.f102.body.getD .skip, Tryz.func102, by kernel_rfl, by kernel_rfl, Loops.no _ _⟩
noncomputable def Tb102 : Tb Tryz.prog := { T := [Y2, Y27], mix := mix, Es := [ET_spec_l06Over], Bs := [], d := 1 }
noncomputable def t_spec_SinI (a0 : Iv) : Tr (Iv) :=
  .leaf (F_spec_l06Over a0 ⟨0, rfl⟩)
theorem r_spec_SinI (a0 : Iv) : Tb102.run B102 [enc a0] (Iv) = (t_spec_SinI a0).opt := by kernel_rfl
noncomputable def F_spec_SinI : Iv → Iv := fun a0 => (t_spec_SinI a0).get
theorem u_spec_SinI (a0 : Iv) : (t_spec_SinI a0).opt = some (F_spec_SinI a0) := Tr.tot_get (by kernel_rfl)
noncomputable def E_spec_SinI : Ent Tryz.prog := .of1 Tb102 B102 (fun _ => true) F_spec_SinI fun a0 _ => (r_spec_SinI a0).trans (u_spec_SinI a0)
noncomputable def B107 : Bod Tryz.prog := ⟨107, Tryz.f107, Tryz.f107.body.getD .skip, Tryz.func107, by kernel_rfl, by kernel_rfl, Loops.no _ _⟩
noncomputable def Tb107 : Tb Tryz.prog := { T := [Y2, Y27], mix := mix, Es := [E_impl_circleHull], Bs := [], d := 1 }
noncomputable def t_impl_SinI (a0 : Iv) : Tr (Iv) :=
  .leaf (F_impl_circleHull a0 ⟨0, rfl⟩)
theorem r_impl_SinI (a0 : Iv) : Tb107.run B107 [enc a0] (Iv) = (t_impl_SinI a0).opt := by kernel_rfl
noncomputable def F_impl_SinI : Iv → Iv := fun a0 => (t_impl_SinI a0).get
theorem u_impl_SinI (a0 : Iv) : (t_impl_SinI a0).opt = some (F_impl_SinI a0) := Tr.tot_get (by kernel_rfl)
noncomputable def E_impl_SinI : Ent Tryz.prog := .of1 Tb107 B107 (fun _ => true) F_impl_SinI fun a0 _ => (r_impl_SinI a0).trans (u_impl_SinI a0)
noncomputable def B225 : Bod Tryz.prog := ⟨225, Tryz.f225, Tryz.f225.body.getD .skip, Tryz.func225, by kernel_rfl, by kernel_rfl, Loops.no _ _⟩
noncomputable def Tb225 : Tb Tryz.prog := { T := [], mix := mix, Es := [], Bs := [], d := 1 }
noncomputable def t_spec_l07Fix (a0 : I64) : Tr (Bool) :=
  .br (decide ((-1152921504606846976) < a0.val)) (.leaf (decide (a0.val < 1152921504606846976))) (.leaf false)
theorem r_spec_l07Fix (a0 : I64) : Tb225.run B225 [enc a0] (Bool) = (t_spec_l07Fix a0).opt := by kernel_rfl
noncomputable def F_spec_l07Fix : I64 → Bool := fun a0 => (t_spec_l07Fix a0).get
theorem u_spec_l07Fix (a0 : I64) : (t_spec_l07Fix a0).opt = some (F_spec_l07Fix a0) := Tr.tot_get (by kernel_rfl)
noncomputable def E_spec_l07Fix : Ent Tryz.prog := .of1 Tb225 B225 (fun _ => true) F_spec_l07Fix fun a0 _ => (r_spec_l07Fix a0).trans (u_spec_l07Fix a0)
noncomputable def B148 : Bod Tryz.prog := ⟨148, Tryz.f148, Tryz.f148.body.getD .skip, Tryz.func148, by kernel_rfl, by kernel_rfl, Loops.no _ _⟩
noncomputable def Tb148 : Tb Tryz.prog := { T := [Y2, Y27], mix := mix, Es := [E_spec_l05Turn], Bs := [], d := 1 }
noncomputable def t_spec_l07Quarter : Tr (Iv) :=
  .br (G_spec_l05Turn ⟨1, rfl⟩) (.br (G_spec_l05Turn ⟨1, rfl⟩) (.leaf ⟨(Rng.w .i64 (0 - (F_spec_l05Turn ⟨1, rfl⟩).hi.val)), (F_spec_l05Turn ⟨1, rfl⟩).hi⟩) (.bad)) (.bad)
theorem r_spec_l07Quarter : Tb148.run B148 [] (Iv) = (t_spec_l07Quarter).opt := by kernel_rfl
noncomputable def F_spec_l07Quarter : Iv := (t_spec_l07Quarter).get
theorem u_spec_l07Quarter : (t_spec_l07Quarter).opt = some (F_spec_l07Quarter) := Tr.get_some (by kernel_rfl)
noncomputable def E_spec_l07Quarter : Ent Tryz.prog := .of0 Tb148 B148 F_spec_l07Quarter (r_spec_l07Quarter.trans u_spec_l07Quarter)
noncomputable def B274 : Bod Tryz.prog := ⟨274, Tryz.f274, Tryz.f274.body.getD .skip, Tryz.func274, by kernel_rfl, by kernel_rfl, Loops.no _ _⟩
noncomputable def Tb274 : Tb Tryz.prog := { T := [Y2, Y27], mix := mix, Es := [E_spec_Integer, E_spec_DivI, E_spec_AddI, ET_spec_SqrtI, E_spec_SqrI], Bs := [], d := 1 }
noncomputable def t_spec_l07Halve (a0 : Iv) : Tr (Iv) :=
  .leaf (F_spec_DivI a0 (F_spec_AddI (F_spec_Integer ⟨1, rfl⟩) (F_spec_SqrtI (F_spec_AddI (F_spec_Integer ⟨1, rfl⟩) (F_spec_SqrI a0)))))
theorem r_spec_l07Halve (a0 : Iv) : Tb274.run B274 [enc a0] (Iv) = (t_spec_l07Halve a0).opt := by kernel_rfl
noncomputable def F_spec_l07Halve : Iv → Iv := fun a0 => (t_spec_l07Halve a0).get
theorem u_spec_l07Halve (a0 : Iv) : (t_spec_l07Halve a0).opt = some (F_spec_l07Halve a0) := Tr.tot_get (by kernel_rfl)
noncomputable def E_spec_l07Halve : Ent Tryz.prog := .of1 Tb274 B274 (fun _ => true) F_spec_l07Halve fun a0 _ => (r_spec_l07Halve a0).trans (u_spec_l07Halve a0)
noncomputable def B273 : Bod Tryz.prog := ⟨273, Tryz.f273, Tryz.f273.body.getD .skip, Tryz.func273, by kernel_rfl, by kernel_rfl, Loops.no _ _⟩
noncomputable def Tb273 : Tb Tryz.prog := { T := [Y2, Y27], mix := mix, Es := [E_spec_MulI, E_spec_Whole, ET_spec_Quotient, E_spec_AddI, E_spec_SubI, E_spec_SqrI, E_spec_InsideI, E_spec_l06Tiny], Bs := [], d := 1 }
noncomputable def t_spec_ArcSeries (a0 : Iv) : Tr (Iv) :=
  .br (!(F_spec_InsideI a0 ⟨⟨(-1073741824), rfl⟩, ⟨1073741824, rfl⟩⟩)) (.leaf F_spec_Whole) (let c3 := F_spec_SqrI a0; .leaf (F_spec_AddI (F_spec_MulI a0 (F_spec_SubI (F_spec_Quotient ⟨1, rfl⟩ ⟨1, rfl⟩) (F_spec_MulI c3 (F_spec_SubI (F_spec_Quotient ⟨1, rfl⟩ ⟨3, rfl⟩) (F_spec_MulI c3 (F_spec_SubI (F_spec_Quotient ⟨1, rfl⟩ ⟨5, rfl⟩) (F_spec_MulI c3 (F_spec_SubI (F_spec_Quotient ⟨1, rfl⟩ ⟨7, rfl⟩) (F_spec_MulI c3 (F_spec_SubI (F_spec_Quotient ⟨1, rfl⟩ ⟨9, rfl⟩) (F_spec_MulI c3 (F_spec_SubI (F_spec_Quotient ⟨1, rfl⟩ ⟨11, rfl⟩) (F_spec_MulI c3 (F_spec_SubI (F_spec_Quotient ⟨1, rfl⟩ ⟨13, rfl⟩) (F_spec_MulI c3 (F_spec_SubI (F_spec_Quotient ⟨1, rfl⟩ ⟨15, rfl⟩) (F_spec_MulI c3 (F_spec_SubI (F_spec_Quotient ⟨1, rfl⟩ ⟨17, rfl⟩) (F_spec_MulI c3 (F_spec_SubI (F_spec_Quotient ⟨1, rfl⟩ ⟨19, rfl⟩) (F_spec_MulI c3 (F_spec_Quotient ⟨1, rfl⟩ ⟨21, rfl⟩)))))))))))))))))))))) F_spec_l06Tiny))
theorem r_spec_ArcSeries (a0 : Iv) : Tb273.run B273 [enc a0] (Iv) = (t_spec_ArcSeries a0).opt := by kernel_rfl
noncomputable def F_spec_ArcSeries : Iv → Iv := fun a0 => (t_spec_ArcSeries a0).get
theorem u_spec_ArcSeries (a0 : Iv) : (t_spec_ArcSeries a0).opt = some (F_spec_ArcSeries a0) := Tr.tot_get (by kernel_rfl)
noncomputable def E_spec_ArcSeries : Ent Tryz.prog := .of1 Tb273 B273 (fun _ => true) F_spec_ArcSeries fun a0 _ => (r_spec_ArcSeries a0).trans (u_spec_ArcSeries a0)
noncomputable def B231 : Bod Tryz.prog := ⟨231, Tryz.f231, Tryz.f231.body.getD .skip, Tryz.func231, by kernel_rfl, by kernel_rfl, Loops.no _ _⟩
noncomputable def Tb231 : Tb Tryz.prog := { T := [Y2, Y27], mix := mix, Es := [E_spec_l04Whole, E_spec_l04Ok, E_spec_l04Make], Bs := [], d := 1 }
noncomputable def t_spec_DoubleI (a0 : Iv) : Tr (Iv) :=
  .br (!(F_spec_l04Ok a0)) (.leaf F_spec_l04Whole) (.leaf (F_spec_l04Make (Rng.w .i64 (2 * a0.lo.val)) (Rng.w .i64 (2 * a0.hi.val))))
theorem r_spec_DoubleI (a0 : Iv) : Tb231.run B231 [enc a0] (Iv) = (t_spec_DoubleI a0).opt := by kernel_rfl
noncomputable def F_spec_DoubleI : Iv → Iv := fun a0 => (t_spec_DoubleI a0).get
theorem u_spec_DoubleI (a0 : Iv) : (t_spec_DoubleI a0).opt = some (F_spec_DoubleI a0) := Tr.tot_get (by kernel_rfl)
noncomputable def E_spec_DoubleI : Ent Tryz.prog := .of1 Tb231 B231 (fun _ => true) F_spec_DoubleI fun a0 _ => (r_spec_DoubleI a0).trans (u_spec_DoubleI a0)
noncomputable def B227 : Bod Tryz.prog := ⟨227, Tryz.f227, Tryz.f227.body.getD .skip, Tryz.func227, by kernel_rfl, by kernel_rfl, Loops.no _ _⟩
noncomputable def Tb227 : Tb Tryz.prog := { T := [Y2, Y27], mix := mix, Es := [E_spec_DoubleI, E_spec_ArcSeries, E_spec_l07Halve], Bs := [], d := 1 }
noncomputable def t_spec_l07Core (a0 : Iv) : Tr (Iv) :=
  .leaf (F_spec_DoubleI (F_spec_DoubleI (F_spec_ArcSeries (F_spec_l07Halve (F_spec_l07Halve a0)))))
theorem r_spec_l07Core (a0 : Iv) : Tb227.run B227 [enc a0] (Iv) = (t_spec_l07Core a0).opt := by kernel_rfl
noncomputable def F_spec_l07Core : Iv → Iv := fun a0 => (t_spec_l07Core a0).get
theorem u_spec_l07Core (a0 : Iv) : (t_spec_l07Core a0).opt = some (F_spec_l07Core a0) := Tr.tot_get (by kernel_rfl)
noncomputable def E_spec_l07Core : Ent Tryz.prog := .of1 Tb227 B227 (fun _ => true) F_spec_l07Core fun a0 _ => (r_spec_l07Core a0).trans (u_spec_l07Core a0)
noncomputable def B150 : Bod Tryz.prog := ⟨150, Tryz.f150, Tryz.f150.body.getD .skip, Tryz.func150, by kernel_rfl, by kernel_rfl, Loops.no _ _⟩
noncomputable def Tb150_p : Tb Tryz.prog := { T := [Y2, Y27], mix := mix, Es := [E_spec_Integer, E_spec_DivI, E_spec_SubI, E_spec_l07Quarter, E_spec_l05At, E_spec_l07Fix, ET_spec_TurnI, E_spec_l07Core], Bs := [], d := 1 }
noncomputable def t_spec_AtanAt_p (a0 : I64) : Tr (Iv) :=
  .br (!(F_spec_l07Fix a0)) (.leaf F_spec_l07Quarter) (.br (decide (a0.val < 0)) (.bad) (.br (decide (a0.val > 4294967296)) (.leaf (F_spec_SubI (F_spec_TurnI ⟨1, rfl⟩) (F_spec_l07Core (F_spec_DivI (F_spec_Integer ⟨1, rfl⟩) (F_spec_l05At a0))))) (.leaf (F_spec_l07Core (F_spec_l05At a0)))))
theorem r_spec_AtanAt_p (a0 : I64) : Tb150_p.run B150 [enc a0] (Iv) = (t_spec_AtanAt_p a0).opt := by kernel_rfl
noncomputable def F_spec_AtanAt_p : I64 → Iv := fun a0 => (t_spec_AtanAt_p a0).get
noncomputable def G_spec_AtanAt_p : I64 → Bool := fun a0 => (t_spec_AtanAt_p a0).opt.isSome
noncomputable def E_spec_AtanAt_p : Ent Tryz.prog := .of1 Tb150_p B150 G_spec_AtanAt_p F_spec_AtanAt_p fun a0 h => (r_spec_AtanAt_p a0).trans (Tr.get_some h)
noncomputable def Tb150 : Tb Tryz.prog := { T := [Y2, Y27], mix := mix, Es := [E_spec_Integer, E_spec_DivI, E_spec_SubI, E_spec_l07Quarter, E_spec_AtanAt_p, E_spec_NegI, E_spec_l05At, E_spec_l07Fix, ET_spec_TurnI, E_spec_l07Core], Bs := [], d := 1 }
noncomputable def t_spec_AtanAt (a0 : I64) : Tr (Iv) :=
  .br (!(F_spec_l07Fix a0)) (.leaf F_spec_l07Quarter) (.br (decide (a0.val < 0)) (let c3 := (Rng.w .i64 (0 - a0.val)); .br (G_spec_AtanAt_p c3) (.leaf (F_spec_NegI (F_spec_AtanAt_p c3))) (.bad)) (.br (decide (a0.val > 4294967296)) (.leaf (F_spec_SubI (F_spec_TurnI ⟨1, rfl⟩) (F_spec_l07Core (F_spec_DivI (F_spec_Integer ⟨1, rfl⟩) (F_spec_l05At a0))))) (.leaf (F_spec_l07Core (F_spec_l05At a0)))))
theorem r_spec_AtanAt (a0 : I64) : Tb150.run B150 [enc a0] (Iv) = (t_spec_AtanAt a0).opt := by kernel_rfl
noncomputable def F_spec_AtanAt : I64 → Iv := fun a0 => (t_spec_AtanAt a0).get
noncomputable def G_spec_AtanAt : I64 → Bool := fun a0 => (t_spec_AtanAt a0).opt.isSome
noncomputable def E_spec_AtanAt : Ent Tryz.prog := .of1 Tb150 B150 G_spec_AtanAt F_spec_AtanAt fun a0 h => (r_spec_AtanAt a0).trans (Tr.get_some h)
noncomputable def B234 : Bod Tryz.prog := ⟨234, Tryz.f234, Tryz.f234.body.getD .skip, Tryz.func234, by kernel_rfl, by kernel_rfl, Loops.no _ _⟩
noncomputable def Tb234 : Tb Tryz.prog := { T := [], mix := mix, Es := [], Bs := [], d := 1 }
noncomputable def t_impl_isOpen (a0 : I64) : Tr (Bool) :=
  .br (decide ((-1152921504606846976) < a0.val)) (.leaf (decide (a0.val < 1152921504606846976))) (.leaf false)
theorem r_impl_isOpen (a0 : I64) : Tb234.run B234 [enc a0] (Bool) = (t_impl_isOpen a0).opt := by kernel_rfl
noncomputable def F_impl_isOpen : I64 → Bool := fun a0 => (t_impl_isOpen a0).get
theorem u_impl_isOpen (a0 : I64) : (t_impl_isOpen a0).opt = some (F_impl_isOpen a0) := Tr.tot_get (by kernel_rfl)
noncomputable def E_impl_isOpen : Ent Tryz.prog := .of1 Tb234 B234 (fun _ => true) F_impl_isOpen fun a0 _ => (r_impl_isOpen a0).trans (u_impl_isOpen a0)
noncomputable def B160 : Bod Tryz.prog := ⟨160, Tryz.f160, Tryz.f160.body.getD .skip, Tryz.func160, by kernel_rfl, by kernel_rfl, Loops.no _ _⟩
noncomputable def Tb160 : Tb Tryz.prog := { T := [Y2, Y27], mix := mix, Es := [ET_impl_TurnI], Bs := [], d := 1 }
noncomputable def t_impl_halfCircle : Tr (Iv) :=
  .leaf ⟨(Rng.w .i64 (0 - (F_impl_TurnI ⟨1, rfl⟩).hi.val)), (F_impl_TurnI ⟨1, rfl⟩).hi⟩
theorem r_impl_halfCircle : Tb160.run B160 [] (Iv) = (t_impl_halfCircle).opt := by kernel_rfl
noncomputable def F_impl_halfCircle : Iv := (t_impl_halfCircle).get
theorem u_impl_halfCircle : (t_impl_halfCircle).opt = some (F_impl_halfCircle) := Tr.tot_get (by kernel_rfl)
noncomputable def E_impl_halfCircle : Ent Tryz.prog := .of0 Tb160 B160 F_impl_halfCircle (r_impl_halfCircle.trans u_impl_halfCircle)
noncomputable def B278 : Bod Tryz.prog := ⟨278, Tryz.f278, Tryz.f278.body.getD .skip, Tryz.func278, by kernel_rfl, by kernel_rfl, Loops.no _ _⟩
noncomputable def Tb278 : Tb Tryz.prog := { T := [Y2, Y27], mix := mix, Es := [E_impl_DivI, E_impl_Integer, E_impl_AddI, ET_impl_SqrtI, ET_impl_SqrI], Bs := [], d := 1 }
noncomputable def t_impl_halved (a0 : Iv) : Tr (Iv) :=
  .leaf (F_impl_DivI a0 (F_impl_AddI (F_impl_Integer ⟨1, rfl⟩) (F_impl_SqrtI (F_impl_AddI (F_impl_Integer ⟨1, rfl⟩) (F_impl_SqrI a0)))))
theorem r_impl_halved (a0 : Iv) : Tb278.run B278 [enc a0] (Iv) = (t_impl_halved a0).opt := by kernel_rfl
noncomputable def F_impl_halved : Iv → Iv := fun a0 => (t_impl_halved a0).get
theorem u_impl_halved (a0 : Iv) : (t_impl_halved a0).opt = some (F_impl_halved a0) := Tr.tot_get (by kernel_rfl)
noncomputable def E_impl_halved : Ent Tryz.prog := .of1 Tb278 B278 (fun _ => true) F_impl_halved fun a0 _ => (r_impl_halved a0).trans (u_impl_halved a0)
noncomputable def B277 : Bod Tryz.prog := ⟨277, Tryz.f277, Tryz.f277.body.getD .skip, Tryz.func277, by kernel_rfl, by kernel_rfl, Loops.no _ _⟩
noncomputable def Tb277 : Tb Tryz.prog := { T := [Y2, Y27], mix := mix, Es := [E_impl_Whole, ET_impl_MulI, ET_impl_Quotient, E_impl_SubI, E_impl_AddI, ET_impl_SqrI, E_impl_InsideI, E_impl_tiny], Bs := [], d := 1 }
noncomputable def t_impl_ArcSeries (a0 : Iv) : Tr (Iv) :=
  .br (!(F_impl_InsideI a0 ⟨⟨(-1073741824), rfl⟩, ⟨1073741824, rfl⟩⟩)) (.leaf F_impl_Whole) (let c3 := F_impl_SqrI a0; .leaf (F_impl_AddI (F_impl_MulI a0 (F_impl_SubI (F_impl_Quotient ⟨1, rfl⟩ ⟨1, rfl⟩) (F_impl_MulI c3 (F_impl_SubI (F_impl_Quotient ⟨1, rfl⟩ ⟨3, rfl⟩) (F_impl_MulI c3 (F_impl_SubI (F_impl_Quotient ⟨1, rfl⟩ ⟨5, rfl⟩) (F_impl_MulI c3 (F_impl_SubI (F_impl_Quotient ⟨1, rfl⟩ ⟨7, rfl⟩) (F_impl_MulI c3 (F_impl_SubI (F_impl_Quotient ⟨1, rfl⟩ ⟨9, rfl⟩) (F_impl_MulI c3 (F_impl_SubI (F_impl_Quotient ⟨1, rfl⟩ ⟨11, rfl⟩) (F_impl_MulI c3 (F_impl_SubI (F_impl_Quotient ⟨1, rfl⟩ ⟨13, rfl⟩) (F_impl_MulI c3 (F_impl_SubI (F_impl_Quotient ⟨1, rfl⟩ ⟨15, rfl⟩) (F_impl_MulI c3 (F_impl_SubI (F_impl_Quotient ⟨1, rfl⟩ ⟨17, rfl⟩) (F_impl_MulI c3 (F_impl_SubI (F_impl_Quotient ⟨1, rfl⟩ ⟨19, rfl⟩) (F_impl_MulI c3 (F_impl_Quotient ⟨1, rfl⟩ ⟨21, rfl⟩)))))))))))))))))))))) F_impl_tiny))
theorem r_impl_ArcSeries (a0 : Iv) : Tb277.run B277 [enc a0] (Iv) = (t_impl_ArcSeries a0).opt := by kernel_rfl
noncomputable def F_impl_ArcSeries : Iv → Iv := fun a0 => (t_impl_ArcSeries a0).get
theorem u_impl_ArcSeries (a0 : Iv) : (t_impl_ArcSeries a0).opt = some (F_impl_ArcSeries a0) := Tr.tot_get (by kernel_rfl)
noncomputable def E_impl_ArcSeries : Ent Tryz.prog := .of1 Tb277 B277 (fun _ => true) F_impl_ArcSeries fun a0 _ => (r_impl_ArcSeries a0).trans (u_impl_ArcSeries a0)
noncomputable def B236 : Bod Tryz.prog := ⟨236, Tryz.f236, Tryz.f236.body.getD .skip, Tryz.func236, by kernel_rfl, by kernel_rfl, Loops.no _ _⟩
noncomputable def Tb236 : Tb Tryz.prog := { T := [Y2, Y27], mix := mix, Es := [E_impl_AddI], Bs := [], d := 1 }
noncomputable def t_impl_DoubleI (a0 : Iv) : Tr (Iv) :=
  .leaf (F_impl_AddI a0 a0)
theorem r_impl_DoubleI (a0 : Iv) : Tb236.run B236 [enc a0] (Iv) = (t_impl_DoubleI a0).opt := by kernel_rfl
noncomputable def F_impl_DoubleI : Iv → Iv := fun a0 => (t_impl_DoubleI a0).get
theorem u_impl_DoubleI (a0 : Iv) : (t_impl_DoubleI a0).opt = some (F_impl_DoubleI a0) := Tr.tot_get (by kernel_rfl)
noncomputable def E_impl_DoubleI : Ent Tryz.prog := .of1 Tb236 B236 (fun _ => true) F_impl_DoubleI fun a0 _ => (r_impl_DoubleI a0).trans (u_impl_DoubleI a0)
noncomputable def B235 : Bod Tryz.prog := ⟨235, Tryz.f235, Tryz.f235.body.getD .skip, Tryz.func235, by kernel_rfl, by kernel_rfl, Loops.no _ _⟩
noncomputable def Tb235 : Tb Tryz.prog := { T := [Y2, Y27], mix := mix, Es := [E_impl_DoubleI, E_impl_ArcSeries, E_impl_halved], Bs := [], d := 1 }
noncomputable def t_impl_fourfold (a0 : Iv) : Tr (Iv) :=
  .leaf (F_impl_DoubleI (F_impl_DoubleI (F_impl_ArcSeries (F_impl_halved (F_impl_halved a0)))))
theorem r_impl_fourfold (a0 : Iv) : Tb235.run B235 [enc a0] (Iv) = (t_impl_fourfold a0).opt := by kernel_rfl
noncomputable def F_impl_fourfold : Iv → Iv := fun a0 => (t_impl_fourfold a0).get
theorem u_impl_fourfold (a0 : Iv) : (t_impl_fourfold a0).opt = some (F_impl_fourfold a0) := Tr.tot_get (by kernel_rfl)
noncomputable def E_impl_fourfold : Ent Tryz.prog := .of1 Tb235 B235 (fun _ => true) F_impl_fourfold fun a0 _ => (r_impl_fourfold a0).trans (u_impl_fourfold a0)
noncomputable def B162 : Bod Tryz.prog := ⟨162, Tryz.f162, Tryz.f162.body.getD .skip, Tryz.func162, by kernel_rfl, by kernel_rfl, Loops.no _ _⟩
noncomputable def Tb162_p : Tb Tryz.prog := { T := [Y2, Y27], mix := mix, Es := [E_impl_DivI, E_impl_Integer, E_impl_at, E_impl_SubI, E_impl_halfCircle, ET_impl_TurnI, E_impl_isOpen, E_impl_fourfold], Bs := [], d := 1 }
noncomputable def t_impl_AtanAt_p (a0 : I64) : Tr (Iv) :=
  .br (!(F_impl_isOpen a0)) (.leaf F_impl_halfCircle) (.br (decide (a0.val < 0)) (.bad) (.br (decide (a0.val > 4294967296)) (.leaf (F_impl_SubI (F_impl_TurnI ⟨1, rfl⟩) (F_impl_fourfold (F_impl_DivI (F_impl_Integer ⟨1, rfl⟩) (F_impl_at a0))))) (.leaf (F_impl_fourfold (F_impl_at a0)))))
theorem r_impl_AtanAt_p (a0 : I64) : Tb162_p.run B162 [enc a0] (Iv) = (t_impl_AtanAt_p a0).opt := by kernel_rfl
noncomputable def F_impl_AtanAt_p : I64 → Iv := fun a0 => (t_impl_AtanAt_p a0).get
noncomputable def G_impl_AtanAt_p : I64 → Bool := fun a0 => (t_impl_AtanAt_p a0).opt.isSome
noncomputable def E_impl_AtanAt_p : Ent Tryz.prog := .of1 Tb162_p B162 G_impl_AtanAt_p F_impl_AtanAt_p fun a0 h => (r_impl_AtanAt_p a0).trans (Tr.get_some h)
noncomputable def Tb162 : Tb Tryz.prog := { T := [Y2, Y27], mix := mix, Es := [E_impl_DivI, E_impl_Integer, E_impl_at, E_impl_SubI, E_impl_halfCircle, E_impl_AtanAt_p, E_impl_NegI, ET_impl_TurnI, E_impl_isOpen, E_impl_fourfold], Bs := [], d := 1 }
noncomputable def t_impl_AtanAt (a0 : I64) : Tr (Iv) :=
  .br (!(F_impl_isOpen a0)) (.leaf F_impl_halfCircle) (.br (decide (a0.val < 0)) (let c3 := (Rng.w .i64 (0 - a0.val)); .br (G_impl_AtanAt_p c3) (.leaf (F_impl_NegI (F_impl_AtanAt_p c3))) (.bad)) (.br (decide (a0.val > 4294967296)) (.leaf (F_impl_SubI (F_impl_TurnI ⟨1, rfl⟩) (F_impl_fourfold (F_impl_DivI (F_impl_Integer ⟨1, rfl⟩) (F_impl_at a0))))) (.leaf (F_impl_fourfold (F_impl_at a0)))))
theorem r_impl_AtanAt (a0 : I64) : Tb162.run B162 [enc a0] (Iv) = (t_impl_AtanAt a0).opt := by kernel_rfl
noncomputable def F_impl_AtanAt : I64 → Iv := fun a0 => (t_impl_AtanAt a0).get
noncomputable def G_impl_AtanAt : I64 → Bool := fun a0 => (t_impl_AtanAt a0).opt.isSome
noncomputable def E_impl_AtanAt : Ent Tryz.prog := .of1 Tb162 B162 G_impl_AtanAt F_impl_AtanAt fun a0 h => (r_impl_AtanAt a0).trans (Tr.get_some h)
noncomputable def B311 : Bod Tryz.prog := ⟨311, Tryz.f311, Tryz.f311.body.getD .skip, Tryz.func311, by kernel_rfl, by kernel_rfl, Loops.no _ _⟩
noncomputable def Tb311_p : Tb Tryz.prog := { T := [Y2, Y27], mix := mix, Es := [E_spec_l04Whole, E_spec_l00In, E_spec_l04Make, E_spec_MulFloor], Bs := [], d := 1 }
noncomputable def t_spec_LogTwoI_p (a0 : I64) : Tr (Iv) :=
  .br (!(F_spec_l00In a0 ⟨(-64), rfl⟩ ⟨64, rfl⟩)) (.leaf F_spec_l04Whole) (.br (decide (a0.val < 0)) (.bad) (.leaf (F_spec_l04Make (F_spec_MulFloor a0 ⟨1598288580650331957, rfl⟩ ⟨29, rfl⟩).a (Rng.w .i64 (0 - (F_spec_MulFloor (Rng.w .i64 (0 - a0.val)) ⟨1598288580650331958, rfl⟩ ⟨29, rfl⟩).a.val)))))
theorem r_spec_LogTwoI_p (a0 : I64) : Tb311_p.run B311 [enc a0] (Iv) = (t_spec_LogTwoI_p a0).opt := by kernel_rfl
noncomputable def F_spec_LogTwoI_p : I64 → Iv := fun a0 => (t_spec_LogTwoI_p a0).get
noncomputable def G_spec_LogTwoI_p : I64 → Bool := fun a0 => (t_spec_LogTwoI_p a0).opt.isSome
noncomputable def E_spec_LogTwoI_p : Ent Tryz.prog := .of1 Tb311_p B311 G_spec_LogTwoI_p F_spec_LogTwoI_p fun a0 h => (r_spec_LogTwoI_p a0).trans (Tr.get_some h)
noncomputable def Tb311 : Tb Tryz.prog := { T := [Y2, Y27], mix := mix, Es := [E_spec_l04Whole, E_spec_l00In, E_spec_l04Make, E_spec_NegI, E_spec_MulFloor, E_spec_LogTwoI_p], Bs := [], d := 1 }
noncomputable def t_spec_LogTwoI (a0 : I64) : Tr (Iv) :=
  .br (!(F_spec_l00In a0 ⟨(-64), rfl⟩ ⟨64, rfl⟩)) (.leaf F_spec_l04Whole) (.br (decide (a0.val < 0)) (let c3 := (Rng.w .i64 (0 - a0.val)); .br (G_spec_LogTwoI_p c3) (.leaf (F_spec_NegI (F_spec_LogTwoI_p c3))) (.bad)) (.leaf (F_spec_l04Make (F_spec_MulFloor a0 ⟨1598288580650331957, rfl⟩ ⟨29, rfl⟩).a (Rng.w .i64 (0 - (F_spec_MulFloor (Rng.w .i64 (0 - a0.val)) ⟨1598288580650331958, rfl⟩ ⟨29, rfl⟩).a.val)))))
theorem r_spec_LogTwoI (a0 : I64) : Tb311.run B311 [enc a0] (Iv) = (t_spec_LogTwoI a0).opt := by kernel_rfl
noncomputable def F_spec_LogTwoI : I64 → Iv := fun a0 => (t_spec_LogTwoI a0).get
noncomputable def G_spec_LogTwoI : I64 → Bool := fun a0 => (t_spec_LogTwoI a0).opt.isSome
noncomputable def E_spec_LogTwoI : Ent Tryz.prog := .of1 Tb311 B311 G_spec_LogTwoI F_spec_LogTwoI fun a0 h => (r_spec_LogTwoI a0).trans (Tr.get_some h)
noncomputable def B300 : Bod Tryz.prog := ⟨300, Tryz.f300, Tryz.f300.body.getD .skip, Tryz.func300, by kernel_rfl, by kernel_rfl, Loops.no _ _⟩
noncomputable def Tb300_p : Tb Tryz.prog := { T := [Y2, Y27], mix := mix, Es := [E_impl_Whole, E_impl_within, ET_impl_MulFloor], Bs := [], d := 1 }
noncomputable def t_impl_LogTwoI_p (a0 : I64) : Tr (Iv) :=
  .br (!(F_impl_within a0 ⟨(-64), rfl⟩ ⟨64, rfl⟩)) (.leaf F_impl_Whole) (.br (decide (a0.val < 0)) (.bad) (.leaf ⟨(F_impl_MulFloor a0 ⟨1598288580650331957, rfl⟩ ⟨29, rfl⟩).a, (Rng.w .i64 (0 - (F_impl_MulFloor (Rng.w .i64 (0 - a0.val)) ⟨1598288580650331958, rfl⟩ ⟨29, rfl⟩).a.val))⟩))
theorem r_impl_LogTwoI_p (a0 : I64) : Tb300_p.run B300 [enc a0] (Iv) = (t_impl_LogTwoI_p a0).opt := by kernel_rfl
noncomputable def F_impl_LogTwoI_p : I64 → Iv := fun a0 => (t_impl_LogTwoI_p a0).get
noncomputable def G_impl_LogTwoI_p : I64 → Bool := fun a0 => (t_impl_LogTwoI_p a0).opt.isSome
noncomputable def E_impl_LogTwoI_p : Ent Tryz.prog := .of1 Tb300_p B300 G_impl_LogTwoI_p F_impl_LogTwoI_p fun a0 h => (r_impl_LogTwoI_p a0).trans (Tr.get_some h)
noncomputable def Tb300 : Tb Tryz.prog := { T := [Y2, Y27], mix := mix, Es := [E_impl_Whole, E_impl_within, E_impl_NegI, ET_impl_MulFloor, E_impl_LogTwoI_p], Bs := [], d := 1 }
noncomputable def t_impl_LogTwoI (a0 : I64) : Tr (Iv) :=
  .br (!(F_impl_within a0 ⟨(-64), rfl⟩ ⟨64, rfl⟩)) (.leaf F_impl_Whole) (.br (decide (a0.val < 0)) (let c3 := (Rng.w .i64 (0 - a0.val)); .br (G_impl_LogTwoI_p c3) (.leaf (F_impl_NegI (F_impl_LogTwoI_p c3))) (.bad)) (.leaf ⟨(F_impl_MulFloor a0 ⟨1598288580650331957, rfl⟩ ⟨29, rfl⟩).a, (Rng.w .i64 (0 - (F_impl_MulFloor (Rng.w .i64 (0 - a0.val)) ⟨1598288580650331958, rfl⟩ ⟨29, rfl⟩).a.val))⟩))
theorem r_impl_LogTwoI (a0 : I64) : Tb300.run B300 [enc a0] (Iv) = (t_impl_LogTwoI a0).opt := by kernel_rfl
noncomputable def F_impl_LogTwoI : I64 → Iv := fun a0 => (t_impl_LogTwoI a0).get
noncomputable def G_impl_LogTwoI : I64 → Bool := fun a0 => (t_impl_LogTwoI a0).opt.isSome
noncomputable def E_impl_LogTwoI : Ent Tryz.prog := .of1 Tb300 B300 G_impl_LogTwoI F_impl_LogTwoI fun a0 h => (r_impl_LogTwoI a0).trans (Tr.get_some h)
noncomputable def B276 : Bod Tryz.prog := ⟨276, Tryz.f276, Tryz.f276.body.getD .skip, Tryz.func276, by kernel_rfl, by kernel_rfl, Loops.no _ _⟩
noncomputable def Tb276 : Tb Tryz.prog := { T := [Y2, Y122, Y125], mix := mix, Es := [E_spec_l02Mul], Bs := [], d := 1 }
noncomputable def t_spec_WideMul (a0 : I64) (a1 : I64) : Tr (Wide) :=
  .leaf (F_spec_l02Mul a0 a1)
theorem r_spec_WideMul (a0 : I64) (a1 : I64) : Tb276.run B276 [enc a0, enc a1] (Wide) = (t_spec_WideMul a0 a1).opt := by kernel_rfl
noncomputable def F_spec_WideMul : I64 → I64 → Wide := fun a0 a1 => (t_spec_WideMul a0 a1).get
theorem u_spec_WideMul (a0 : I64) (a1 : I64) : (t_spec_WideMul a0 a1).opt = some (F_spec_WideMul a0 a1) := Tr.tot_get (by kernel_rfl)
noncomputable def E_spec_WideMul : Ent Tryz.prog := .of2 Tb276 B276 (fun _ _ => true) F_spec_WideMul fun a0 a1 _ => (r_spec_WideMul a0 a1).trans (u_spec_WideMul a0 a1)
noncomputable def B232 : Bod Tryz.prog := ⟨232, Tryz.f232, Tryz.f232.body.getD .skip, Tryz.func232, by kernel_rfl, by kernel_rfl, Loops.no _ _⟩
noncomputable def Tb232 : Tb Tryz.prog := { T := [Y2, Y27, Y122, Y125], mix := mix, Es := [E_spec_Whole, E_spec_l00In, ET_spec_SqrtFloor, E_spec_WideMul], Bs := [], d := 1 }
noncomputable def t_spec_CircleAt (a0 : I64) : Tr (Iv) :=
  .br (!(F_spec_l00In a0 ⟨(-4294967296), rfl⟩ ⟨4294967296, rfl⟩)) (.leaf F_spec_Whole) (let c3 := (Rng.w .i64 (4294967296 - a0.val)); let c4 := (Rng.w .i64 (4294967296 + a0.val)); let c5 := F_spec_SqrtFloor c3 c4; let c6 := F_spec_WideMul c5.a c5.a; let c7 := F_spec_WideMul c3 c4; .br (!((c6.hi.val == c7.hi.val) && ((c6.lo.val == c7.lo.val) && true))) (.leaf ⟨c5.a, (Rng.w .i64 (c5.a.val + 1))⟩) (.leaf ⟨c5.a, c5.a⟩))
theorem r_spec_CircleAt (a0 : I64) : Tb232.run B232 [enc a0] (Iv) = (t_spec_CircleAt a0).opt := by kernel_rfl
noncomputable def F_spec_CircleAt : I64 → Iv := fun a0 => (t_spec_CircleAt a0).get
theorem u_spec_CircleAt (a0 : I64) : (t_spec_CircleAt a0).opt = some (F_spec_CircleAt a0) := Tr.tot_get (by kernel_rfl)
noncomputable def E_spec_CircleAt : Ent Tryz.prog := .of1 Tb232 B232 (fun _ => true) F_spec_CircleAt fun a0 _ => (r_spec_CircleAt a0).trans (u_spec_CircleAt a0)
noncomputable def B237 : Bod Tryz.prog := ⟨237, Tryz.f237, Tryz.f237.body.getD .skip, Tryz.func237, by kernel_rfl, by kernel_rfl, Loops.no _ _⟩
noncomputable def Tb237 : Tb Tryz.prog := { T := [Y2, Y27, Y122, Y125], mix := mix, Es := [E_impl_Whole, E_impl_at, E_impl_within, E_impl_WideMul, ET_impl_SqrtFloor], Bs := [], d := 1 }
noncomputable def t_impl_CircleAt (a0 : I64) : Tr (Iv) :=
  .br (!(F_impl_within a0 ⟨(-4294967296), rfl⟩ ⟨4294967296, rfl⟩)) (.leaf F_impl_Whole) (let c5 := F_impl_SqrtFloor (Rng.w .i64 (4294967296 - a0.val)) (Rng.w .i64 (4294967296 + a0.val)); let c6 := F_impl_WideMul c5.a c5.a; let c9 := F_impl_WideMul (Rng.w .i64 (4294967296 - a0.val)) (Rng.w .i64 (4294967296 + a0.val)); .br ((c6.hi.val == c9.hi.val) && ((c6.lo.val == c9.lo.val) && true)) (.leaf (F_impl_at c5.a)) (.leaf ⟨c5.a, (Rng.w .i64 (c5.a.val + 1))⟩))
theorem r_impl_CircleAt (a0 : I64) : Tb237.run B237 [enc a0] (Iv) = (t_impl_CircleAt a0).opt := by kernel_rfl
noncomputable def F_impl_CircleAt : I64 → Iv := fun a0 => (t_impl_CircleAt a0).get
theorem u_impl_CircleAt (a0 : I64) : (t_impl_CircleAt a0).opt = some (F_impl_CircleAt a0) := Tr.tot_get (by kernel_rfl)
noncomputable def E_impl_CircleAt : Ent Tryz.prog := .of1 Tb237 B237 (fun _ => true) F_impl_CircleAt fun a0 _ => (r_impl_CircleAt a0).trans (u_impl_CircleAt a0)
end
end Go.Proofs.YtcfflflcbacapaaGreat.Ev
