import Derived.Test.YtegdoadciojpaaaGreatDoorGvC
import Derived.Test.YtegdoadciojpaaaGreatDoorChecked
import Derived.KernelRfl
namespace Go.Proofs.YtegdoadciojpaaaGreatDoor.Ev
open Go Go.RowKit
set_option maxRecDepth 100000
set_option linter.unusedVariables false
section
theorem mix : Tryz.prog.follows .mixedOrders = true := by kernel_rfl
noncomputable def B33 : Bod Tryz.prog := ⟨33, Tryz.f33, Tryz.f33.body.getD .skip, Tryz.func33, by kernel_rfl, by kernel_rfl, Loops.no _ _⟩
noncomputable def Tb33 : Tb Tryz.prog := { T := [], mix := mix, Es := [], Bs := [], d := 1 }
noncomputable def t_impl_within (a0 : I64) (a1 : I64) (a2 : I64) : Tr (Bool) :=
  .br (decide (a0.val ≥ a1.val)) (.leaf (decide (a0.val ≤ a2.val))) (.leaf false)
theorem r_impl_within (a0 : I64) (a1 : I64) (a2 : I64) : Tb33.run B33 [enc a0, enc a1, enc a2] (Bool) = (t_impl_within a0 a1 a2).opt := by kernel_rfl
noncomputable def F_impl_within : I64 → I64 → I64 → Bool := fun a0 a1 a2 => (t_impl_within a0 a1 a2).get
theorem u_impl_within (a0 : I64) (a1 : I64) (a2 : I64) : (t_impl_within a0 a1 a2).opt = some (F_impl_within a0 a1 a2) := Tr.tot_get (by kernel_rfl)
noncomputable def E_impl_within : Ent Tryz.prog := .of3 Tb33 B33 (fun _ _ _ => true) F_impl_within fun a0 a1 a2 _ => (r_impl_within a0 a1 a2).trans (u_impl_within a0 a1 a2)
noncomputable def Y2 : TyE Tryz.prog := ⟨2, 1, (.int .i64), [.i64 ⟨0, rfl⟩], false, by kernel_rfl, by kernel_rfl, by kernel_rfl, by kernel_rfl, by kernel_rfl, by kernel_rfl⟩
noncomputable def Y23 : TyE Tryz.prog := ⟨23, 2, (.struct [(0, 2, 1), (1, 2, 1)]), [.i64 ⟨0, rfl⟩, .i64 ⟨0, rfl⟩], true, by kernel_rfl, by kernel_rfl, by kernel_rfl, by kernel_rfl, by kernel_rfl, by kernel_rfl⟩
noncomputable def B23 : Bod Tryz.prog := ⟨23, Tryz.f23, Tryz.f23.body.getD .skip, Tryz.func23, by kernel_rfl, by kernel_rfl, Loops.no _ _⟩
noncomputable def Tb23 : Tb Tryz.prog := { T := [Y2, Y23], mix := mix, Es := [E_impl_within], Bs := [], d := 1 }
noncomputable def t_impl_ValidPoint (a0 : Point) : Tr (Bool) :=
  .br (F_impl_within a0.lat ⟨(-900000000), rfl⟩ ⟨900000000, rfl⟩) (.br (decide (a0.lon.val > (-1800000000))) (.leaf (decide (a0.lon.val ≤ 1800000000))) (.leaf false)) (.leaf false)
theorem r_impl_ValidPoint (a0 : Point) : Tb23.run B23 [enc a0] (Bool) = (t_impl_ValidPoint a0).opt := by kernel_rfl
noncomputable def F_impl_ValidPoint : Point → Bool := fun a0 => (t_impl_ValidPoint a0).get
theorem u_impl_ValidPoint (a0 : Point) : (t_impl_ValidPoint a0).opt = some (F_impl_ValidPoint a0) := Tr.tot_get (by kernel_rfl)
noncomputable def E_impl_ValidPoint : Ent Tryz.prog := .of1 Tb23 B23 (fun _ => true) F_impl_ValidPoint fun a0 _ => (r_impl_ValidPoint a0).trans (u_impl_ValidPoint a0)
noncomputable def B27 : Bod Tryz.prog := ⟨27, Tryz.f27, Tryz.f27.body.getD .skip, Tryz.func27, by kernel_rfl, by kernel_rfl, Loops.no _ _⟩
noncomputable def Tb27 : Tb Tryz.prog := { T := [], mix := mix, Es := [E_impl_within], Bs := [], d := 1 }
noncomputable def t_impl_isHeight (a0 : I64) : Tr (Bool) :=
  .leaf (F_impl_within a0 ⟨(-20000000), rfl⟩ ⟨20000000000, rfl⟩)
theorem r_impl_isHeight (a0 : I64) : Tb27.run B27 [enc a0] (Bool) = (t_impl_isHeight a0).opt := by kernel_rfl
noncomputable def F_impl_isHeight : I64 → Bool := fun a0 => (t_impl_isHeight a0).get
theorem u_impl_isHeight (a0 : I64) : (t_impl_isHeight a0).opt = some (F_impl_isHeight a0) := Tr.tot_get (by kernel_rfl)
noncomputable def E_impl_isHeight : Ent Tryz.prog := .of1 Tb27 B27 (fun _ => true) F_impl_isHeight fun a0 _ => (r_impl_isHeight a0).trans (u_impl_isHeight a0)
noncomputable def Y25 : TyE Tryz.prog := ⟨25, 3, (.struct [(0, 23, 2), (2, 2, 1)]), [.i64 ⟨0, rfl⟩, .i64 ⟨0, rfl⟩, .i64 ⟨0, rfl⟩], false, by kernel_rfl, by kernel_rfl, by kernel_rfl, by kernel_rfl, by kernel_rfl, by kernel_rfl⟩
noncomputable def B14 : Bod Tryz.prog := ⟨14, Tryz.f14, Tryz.f14.body.getD .skip, Tryz.func14, by kernel_rfl, by kernel_rfl, Loops.no _ _⟩
noncomputable def Tb14 : Tb Tryz.prog := { T := [Y2, Y23, Y25], mix := mix, Es := [E_impl_ValidPoint, E_impl_isHeight], Bs := [], d := 1 }
noncomputable def t_impl_ValidPlace (a0 : Place) : Tr (Bool) :=
  .br (F_impl_ValidPoint a0.pt) (.leaf (F_impl_isHeight a0.h)) (.leaf false)
theorem r_impl_ValidPlace (a0 : Place) : Tb14.run B14 [enc a0] (Bool) = (t_impl_ValidPlace a0).opt := by kernel_rfl
noncomputable def F_impl_ValidPlace : Place → Bool := fun a0 => (t_impl_ValidPlace a0).get
theorem u_impl_ValidPlace (a0 : Place) : (t_impl_ValidPlace a0).opt = some (F_impl_ValidPlace a0) := Tr.tot_get (by kernel_rfl)
noncomputable def E_impl_ValidPlace : Ent Tryz.prog := .of1 Tb14 B14 (fun _ => true) F_impl_ValidPlace fun a0 _ => (r_impl_ValidPlace a0).trans (u_impl_ValidPlace a0)
noncomputable def B19 : Bod Tryz.prog := ⟨19, Tryz.f19, Tryz.f19.body.getD .skip, Tryz.func19, by kernel_rfl, by kernel_rfl, Loops.no _ _⟩
noncomputable def Tb19 : Tb Tryz.prog := { T := [], mix := mix, Es := [], Bs := [], d := 1 }
noncomputable def t_spec_l00In (a0 : I64) (a1 : I64) (a2 : I64) : Tr (Bool) :=
  .br (decide (a0.val ≥ a1.val)) (.leaf (decide (a0.val ≤ a2.val))) (.leaf false)
theorem r_spec_l00In (a0 : I64) (a1 : I64) (a2 : I64) : Tb19.run B19 [enc a0, enc a1, enc a2] (Bool) = (t_spec_l00In a0 a1 a2).opt := by kernel_rfl
noncomputable def F_spec_l00In : I64 → I64 → I64 → Bool := fun a0 a1 a2 => (t_spec_l00In a0 a1 a2).get
theorem u_spec_l00In (a0 : I64) (a1 : I64) (a2 : I64) : (t_spec_l00In a0 a1 a2).opt = some (F_spec_l00In a0 a1 a2) := Tr.tot_get (by kernel_rfl)
noncomputable def E_spec_l00In : Ent Tryz.prog := .of3 Tb19 B19 (fun _ _ _ => true) F_spec_l00In fun a0 a1 a2 _ => (r_spec_l00In a0 a1 a2).trans (u_spec_l00In a0 a1 a2)
noncomputable def B17 : Bod Tryz.prog := ⟨17, Tryz.f17, Tryz.f17.body.getD .skip, Tryz.func17, by kernel_rfl, by kernel_rfl, Loops.no _ _⟩
noncomputable def Tb17 : Tb Tryz.prog := { T := [Y2, Y23], mix := mix, Es := [E_spec_l00In], Bs := [], d := 1 }
noncomputable def t_spec_l11Ok (a0 : Point) : Tr (Bool) :=
  .br (F_spec_l00In a0.lat ⟨(-900000000), rfl⟩ ⟨900000000, rfl⟩) (.leaf (F_spec_l00In a0.lon ⟨(-1799999999), rfl⟩ ⟨1800000000, rfl⟩)) (.leaf false)
theorem r_spec_l11Ok (a0 : Point) : Tb17.run B17 [enc a0] (Bool) = (t_spec_l11Ok a0).opt := by kernel_rfl
noncomputable def F_spec_l11Ok : Point → Bool := fun a0 => (t_spec_l11Ok a0).get
theorem u_spec_l11Ok (a0 : Point) : (t_spec_l11Ok a0).opt = some (F_spec_l11Ok a0) := Tr.tot_get (by kernel_rfl)
noncomputable def E_spec_l11Ok : Ent Tryz.prog := .of1 Tb17 B17 (fun _ => true) F_spec_l11Ok fun a0 _ => (r_spec_l11Ok a0).trans (u_spec_l11Ok a0)
noncomputable def B15 : Bod Tryz.prog := ⟨15, Tryz.f15, Tryz.f15.body.getD .skip, Tryz.func15, by kernel_rfl, by kernel_rfl, Loops.no _ _⟩
noncomputable def Tb15 : Tb Tryz.prog := { T := [Y2, Y23], mix := mix, Es := [], Bs := [], d := 1 }
noncomputable def t_laws_eqPoint (a0 : Point) (a1 : Point) : Tr (Bool) :=
  .br (a0.lat.val != a1.lat.val) (.leaf false) (.br (a0.lon.val != a1.lon.val) (.leaf false) (.leaf true))
theorem r_laws_eqPoint (a0 : Point) (a1 : Point) : Tb15.run B15 [enc a0, enc a1] (Bool) = (t_laws_eqPoint a0 a1).opt := by kernel_rfl
noncomputable def F_laws_eqPoint : Point → Point → Bool := fun a0 a1 => (t_laws_eqPoint a0 a1).get
theorem u_laws_eqPoint (a0 : Point) (a1 : Point) : (t_laws_eqPoint a0 a1).opt = some (F_laws_eqPoint a0 a1) := Tr.tot_get (by kernel_rfl)
noncomputable def E_laws_eqPoint : Ent Tryz.prog := .of2 Tb15 B15 (fun _ _ => true) F_laws_eqPoint fun a0 a1 _ => (r_laws_eqPoint a0 a1).trans (u_laws_eqPoint a0 a1)
noncomputable def B6 : Bod Tryz.prog := ⟨6, Tryz.f6, Tryz.f6.body.getD .skip, Tryz.func6, by kernel_rfl, by kernel_rfl, Loops.no _ _⟩
noncomputable def Tb6 : Tb Tryz.prog := { T := [Y2, Y23, Y25], mix := mix, Es := [E_laws_eqPoint], Bs := [], d := 1 }
noncomputable def t_laws_eqPlace (a0 : Place) (a1 : Place) : Tr (Bool) :=
  .br (!(F_laws_eqPoint a0.pt a1.pt)) (.leaf false) (.br (a0.h.val != a1.h.val) (.leaf false) (.leaf true))
theorem r_laws_eqPlace (a0 : Place) (a1 : Place) : Tb6.run B6 [enc a0, enc a1] (Bool) = (t_laws_eqPlace a0 a1).opt := by kernel_rfl
noncomputable def F_laws_eqPlace : Place → Place → Bool := fun a0 a1 => (t_laws_eqPlace a0 a1).get
theorem u_laws_eqPlace (a0 : Place) (a1 : Place) : (t_laws_eqPlace a0 a1).opt = some (F_laws_eqPlace a0 a1) := Tr.tot_get (by kernel_rfl)
noncomputable def E_laws_eqPlace : Ent Tryz.prog := .of2 Tb6 B6 (fun _ _ => true) F_laws_eqPlace fun a0 a1 _ => (r_laws_eqPlace a0 a1).trans (u_laws_eqPlace a0 a1)
end
end Go.Proofs.YtegdoadciojpaaaGreatDoor.Ev
