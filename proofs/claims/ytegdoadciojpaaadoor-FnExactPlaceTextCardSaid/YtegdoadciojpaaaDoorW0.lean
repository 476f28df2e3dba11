import Derived.Test.YtegdoadciojpaaaDoorFvC
import Derived.Test.YtegdoadciojpaaaDoorChecked
import Derived.KernelRfl
namespace Go.Proofs.YtegdoadciojpaaaDoor.Ev
open Go Go.RowKit
set_option maxRecDepth 100000
set_option linter.unusedVariables false
section
theorem mix : Tryd.prog.follows .mixedOrders = true := by kernel_rfl
noncomputable def Y2 : TyE Tryd.prog := ⟨2, 1, (.int .i64), [.i64 ⟨0, rfl⟩], false, by kernel_rfl, by kernel_rfl, by kernel_rfl, by kernel_rfl, by kernel_rfl, by kernel_rfl⟩
noncomputable def Y33 : TyE Tryd.prog := ⟨33, 2, (.struct [(0, 2, 1), (1, 2, 1)]), [.i64 ⟨0, rfl⟩, .i64 ⟨0, rfl⟩], true, by kernel_rfl, by kernel_rfl, by kernel_rfl, by kernel_rfl, by kernel_rfl, by kernel_rfl⟩
noncomputable def Y37 : TyE Tryd.prog := ⟨37, 2, (.struct [(0, 2, 1), (1, 2, 1)]), [.i64 ⟨0, rfl⟩, .i64 ⟨0, rfl⟩], true, by kernel_rfl, by kernel_rfl, by kernel_rfl, by kernel_rfl, by kernel_rfl, by kernel_rfl⟩
noncomputable def B31 : Bod Tryd.prog := ⟨31, Tryd.f31, Tryd.f31.body.getD .skip, Tryd.func31, by kernel_rfl, by kernel_rfl, Loops.no _ _⟩
noncomputable def Tb31 : Tb Tryd.prog := { T := [Y2, Y33, Y37], mix := mix, Es := [], Bs := [], d := 1 }
noncomputable def t_laws_toPoint (a0 : Point) : Tr (Point) :=
  .leaf a0
theorem r_laws_toPoint (a0 : Point) : Tb31.run B31 [enc a0] (Point) = (t_laws_toPoint a0).opt := by kernel_rfl
noncomputable def F_laws_toPoint : Point → Point := fun a0 => (t_laws_toPoint a0).get
theorem u_laws_toPoint (a0 : Point) : (t_laws_toPoint a0).opt = some (F_laws_toPoint a0) := Tr.tot_get (by kernel_rfl)
noncomputable def E_laws_toPoint : Ent Tryd.prog := .of1 Tb31 B31 (fun _ => true) F_laws_toPoint fun a0 _ => (r_laws_toPoint a0).trans (u_laws_toPoint a0)
noncomputable def Y35 : TyE Tryd.prog := ⟨35, 3, (.struct [(0, 33, 2), (2, 2, 1)]), [.i64 ⟨0, rfl⟩, .i64 ⟨0, rfl⟩, .i64 ⟨0, rfl⟩], false, by kernel_rfl, by kernel_rfl, by kernel_rfl, by kernel_rfl, by kernel_rfl, by kernel_rfl⟩
noncomputable def Y39 : TyE Tryd.prog := ⟨39, 3, (.struct [(0, 37, 2), (2, 2, 1)]), [.i64 ⟨0, rfl⟩, .i64 ⟨0, rfl⟩, .i64 ⟨0, rfl⟩], false, by kernel_rfl, by kernel_rfl, by kernel_rfl, by kernel_rfl, by kernel_rfl, by kernel_rfl⟩
noncomputable def B16 : Bod Tryd.prog := ⟨16, Tryd.f16, Tryd.f16.body.getD .skip, Tryd.func16, by kernel_rfl, by kernel_rfl, Loops.no _ _⟩
noncomputable def Tb16 : Tb Tryd.prog := { T := [Y2, Y33, Y35, Y37, Y39], mix := mix, Es := [E_laws_toPoint], Bs := [], d := 1 }
noncomputable def t_laws_toPlace (a0 : Place) : Tr (Place) :=
  .leaf ⟨(F_laws_toPoint a0.pt), a0.h⟩
theorem r_laws_toPlace (a0 : Place) : Tb16.run B16 [enc a0] (Place) = (t_laws_toPlace a0).opt := by kernel_rfl
noncomputable def F_laws_toPlace : Place → Place := fun a0 => (t_laws_toPlace a0).get
theorem u_laws_toPlace (a0 : Place) : (t_laws_toPlace a0).opt = some (F_laws_toPlace a0) := Tr.tot_get (by kernel_rfl)
noncomputable def E_laws_toPlace : Ent Tryd.prog := .of1 Tb16 B16 (fun _ => true) F_laws_toPlace fun a0 _ => (r_laws_toPlace a0).trans (u_laws_toPlace a0)
noncomputable def B23 : Bod Tryd.prog := ⟨23, Tryd.f23, Tryd.f23.body.getD .skip, Tryd.func23, by kernel_rfl, by kernel_rfl, Loops.no _ _⟩
noncomputable def Tb23 : Tb Tryd.prog := { T := [], mix := mix, Es := [], Bs := [], d := 1 }
noncomputable def t_impl_within (a0 : I64) (a1 : I64) (a2 : I64) : Tr (Bool) :=
  .br (decide (a0.val ≥ a1.val)) (.leaf (decide (a0.val ≤ a2.val))) (.leaf false)
theorem r_impl_within (a0 : I64) (a1 : I64) (a2 : I64) : Tb23.run B23 [enc a0, enc a1, enc a2] (Bool) = (t_impl_within a0 a1 a2).opt := by kernel_rfl
noncomputable def F_impl_within : I64 → I64 → I64 → Bool := fun a0 a1 a2 => (t_impl_within a0 a1 a2).get
theorem u_impl_within (a0 : I64) (a1 : I64) (a2 : I64) : (t_impl_within a0 a1 a2).opt = some (F_impl_within a0 a1 a2) := Tr.tot_get (by kernel_rfl)
noncomputable def E_impl_within : Ent Tryd.prog := .of3 Tb23 B23 (fun _ _ _ => true) F_impl_within fun a0 a1 a2 _ => (r_impl_within a0 a1 a2).trans (u_impl_within a0 a1 a2)
noncomputable def B42 : Bod Tryd.prog := ⟨42, Tryd.f42, Tryd.f42.body.getD .skip, Tryd.func42, by kernel_rfl, by kernel_rfl, Loops.no _ _⟩
noncomputable def Tb42 : Tb Tryd.prog := { T := [Y2, Y37], mix := mix, Es := [E_impl_within], Bs := [], d := 1 }
noncomputable def t_impl_ValidPoint (a0 : Point) : Tr (Bool) :=
  .br (F_impl_within a0.lat ⟨(-900000000), rfl⟩ ⟨900000000, rfl⟩) (.br (decide (a0.lon.val > (-1800000000))) (.leaf (decide (a0.lon.val ≤ 1800000000))) (.leaf false)) (.leaf false)
theorem r_impl_ValidPoint (a0 : Point) : Tb42.run B42 [enc a0] (Bool) = (t_impl_ValidPoint a0).opt := by kernel_rfl
noncomputable def F_impl_ValidPoint : Point → Bool := fun a0 => (t_impl_ValidPoint a0).get
theorem u_impl_ValidPoint (a0 : Point) : (t_impl_ValidPoint a0).opt = some (F_impl_ValidPoint a0) := Tr.tot_get (by kernel_rfl)
noncomputable def E_impl_ValidPoint : Ent Tryd.prog := .of1 Tb42 B42 (fun _ => true) F_impl_ValidPoint fun a0 _ => (r_impl_ValidPoint a0).trans (u_impl_ValidPoint a0)
noncomputable def B49 : Bod Tryd.prog := ⟨49, Tryd.f49, Tryd.f49.body.getD .skip, Tryd.func49, by kernel_rfl, by kernel_rfl, Loops.no _ _⟩
noncomputable def Tb49 : Tb Tryd.prog := { T := [], mix := mix, Es := [E_impl_within], Bs := [], d := 1 }
noncomputable def t_impl_isHeight (a0 : I64) : Tr (Bool) :=
  .leaf (F_impl_within a0 ⟨(-20000000), rfl⟩ ⟨20000000000, rfl⟩)
theorem r_impl_isHeight (a0 : I64) : Tb49.run B49 [enc a0] (Bool) = (t_impl_isHeight a0).opt := by kernel_rfl
noncomputable def F_impl_isHeight : I64 → Bool := fun a0 => (t_impl_isHeight a0).get
theorem u_impl_isHeight (a0 : I64) : (t_impl_isHeight a0).opt = some (F_impl_isHeight a0) := Tr.tot_get (by kernel_rfl)
noncomputable def E_impl_isHeight : Ent Tryd.prog := .of1 Tb49 B49 (fun _ => true) F_impl_isHeight fun a0 _ => (r_impl_isHeight a0).trans (u_impl_isHeight a0)
noncomputable def B32 : Bod Tryd.prog := ⟨32, Tryd.f32, Tryd.f32.body.getD .skip, Tryd.func32, by kernel_rfl, by kernel_rfl, Loops.no _ _⟩
noncomputable def Tb32 : Tb Tryd.prog := { T := [Y2, Y37, Y39], mix := mix, Es := [E_impl_ValidPoint, E_impl_isHeight], Bs := [], d := 1 }
noncomputable def t_impl_ValidPlace (a0 : Place) : Tr (Bool) :=
  .br (F_impl_ValidPoint a0.pt) (.leaf (F_impl_isHeight a0.h)) (.leaf false)
theorem r_impl_ValidPlace (a0 : Place) : Tb32.run B32 [enc a0] (Bool) = (t_impl_ValidPlace a0).opt := by kernel_rfl
noncomputable def F_impl_ValidPlace : Place → Bool := fun a0 => (t_impl_ValidPlace a0).get
theorem u_impl_ValidPlace (a0 : Place) : (t_impl_ValidPlace a0).opt = some (F_impl_ValidPlace a0) := Tr.tot_get (by kernel_rfl)
noncomputable def E_impl_ValidPlace : Ent Tryd.prog := .of1 Tb32 B32 (fun _ => true) F_impl_ValidPlace fun a0 _ => (r_impl_ValidPlace a0).trans (u_impl_ValidPlace a0)
noncomputable def B21 : Bod Tryd.prog := ⟨21, Tryd.f21, Tryd.f21.body.getD .skip, Tryd.func21, by kernel_rfl, by kernel_rfl, Loops.no _ _⟩
noncomputable def Tb21 : Tb Tryd.prog := { T := [], mix := mix, Es := [], Bs := [], d := 1 }
noncomputable def t_spec_l00In (a0 : I64) (a1 : I64) (a2 : I64) : Tr (Bool) :=
  .br (decide (a0.val ≥ a1.val)) (.leaf (decide (a0.val ≤ a2.val))) (.leaf false)
theorem r_spec_l00In (a0 : I64) (a1 : I64) (a2 : I64) : Tb21.run B21 [enc a0, enc a1, enc a2] (Bool) = (t_spec_l00In a0 a1 a2).opt := by kernel_rfl
noncomputable def F_spec_l00In : I64 → I64 → I64 → Bool := fun a0 a1 a2 => (t_spec_l00In a0 a1 a2).get
theorem u_spec_l00In (a0 : I64) (a1 : I64) (a2 : I64) : (t_spec_l00In a0 a1 a2).opt = some (F_spec_l00In a0 a1 a2) := Tr.tot_get (by kernel_rfl)
noncomputable def E_spec_l00In : Ent Tryd.prog := .of3 Tb21 B21 (fun _ _ _ => true) F_spec_l00In fun a0 a1 a2 _ => (r_spec_l00In a0 a1 a2).trans (u_spec_l00In a0 a1 a2)
noncomputable def B39 : Bod Tryd.prog := ⟨39, Tryd.f39, Tryd.f39.body.getD .skip, Tryd.func39, by kernel_rfl, by kernel_rfl, Loops.no _ _⟩
noncomputable def Tb39 : Tb Tryd.prog := { T := [Y2, Y37], mix := mix, Es := [E_spec_l00In], Bs := [], d := 1 }
noncomputable def t_spec_l11Ok (a0 : Point) : Tr (Bool) :=
  .br (F_spec_l00In a0.lat ⟨(-900000000), rfl⟩ ⟨900000000, rfl⟩) (.leaf (F_spec_l00In a0.lon ⟨(-1799999999), rfl⟩ ⟨1800000000, rfl⟩)) (.leaf false)
theorem r_spec_l11Ok (a0 : Point) : Tb39.run B39 [enc a0] (Bool) = (t_spec_l11Ok a0).opt := by kernel_rfl
noncomputable def F_spec_l11Ok : Point → Bool := fun a0 => (t_spec_l11Ok a0).get
theorem u_spec_l11Ok (a0 : Point) : (t_spec_l11Ok a0).opt = some (F_spec_l11Ok a0) := Tr.tot_get (by kernel_rfl)
noncomputable def E_spec_l11Ok : Ent Tryd.prog := .of1 Tb39 B39 (fun _ => true) F_spec_l11Ok fun a0 _ => (r_spec_l11Ok a0).trans (u_spec_l11Ok a0)
end
end Go.Proofs.YtegdoadciojpaaaDoor.Ev
