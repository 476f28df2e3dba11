import Derived.Test.YtlhbapgmkkgfgaaEv6
import Derived.Test.YtlhbapgmkkgfgaaChecked
import Derived.KernelRfl
namespace Go.Proofs.Ytlhbapgmkkgfgaa.Ev
open Go Go.RowKit
set_option maxRecDepth 100000
set_option linter.unusedVariables false
section
theorem mix : Try.prog.follows .mixedOrders = true := by kernel_rfl
noncomputable def Y2 : TyE Try.prog := ⟨2, 1, (.int .i64), [.i64 ⟨0, rfl⟩], false, by kernel_rfl, by kernel_rfl, by kernel_rfl, by kernel_rfl, by kernel_rfl, by kernel_rfl⟩
noncomputable def Y23 : TyE Try.prog := ⟨23, 2, (.struct [(0, 2, 1), (1, 2, 1)]), [.i64 ⟨0, rfl⟩, .i64 ⟨0, rfl⟩], true, by kernel_rfl, by kernel_rfl, by kernel_rfl, by kernel_rfl, by kernel_rfl, by kernel_rfl⟩
noncomputable def Y27 : TyE Try.prog := ⟨27, 2, (.struct [(0, 2, 1), (1, 2, 1)]), [.i64 ⟨0, rfl⟩, .i64 ⟨0, rfl⟩], true, by kernel_rfl, by kernel_rfl, by kernel_rfl, by kernel_rfl, by kernel_rfl, by kernel_rfl⟩
noncomputable def B17 : Bod Try.prog := ⟨17, Try.f17, Try.f17.body.getD .skip, Try.func17, by kernel_rfl, by kernel_rfl, Loops.no _ _⟩
noncomputable def Tb17 : Tb Try.prog := { T := [Y2, Y23, Y27], mix := mix, Es := [], Bs := [], d := 1 }
def t_laws_toPoint (a0 : Point) : Tr (Point) :=
  .leaf a0
theorem r_laws_toPoint (a0 : Point) : Tb17.run B17 [enc a0] (Point) = (t_laws_toPoint a0).opt := by kernel_rfl
def F_laws_toPoint : Point → Point := fun a0 => (t_laws_toPoint a0).get
theorem u_laws_toPoint (a0 : Point) : (t_laws_toPoint a0).opt = some (F_laws_toPoint a0) := Tr.tot_get (by kernel_rfl)
noncomputable def E_laws_toPoint : Ent Try.prog := .of1 Tb17 B17 (fun _ => true) F_laws_toPoint fun a0 _ => (r_laws_toPoint a0).trans (u_laws_toPoint a0)
noncomputable def Y25 : TyE Try.prog := ⟨25, 3, (.struct [(0, 23, 2), (2, 2, 1)]), [.i64 ⟨0, rfl⟩, .i64 ⟨0, rfl⟩, .i64 ⟨0, rfl⟩], false, by kernel_rfl, by kernel_rfl, by kernel_rfl, by kernel_rfl, by kernel_rfl, by kernel_rfl⟩
noncomputable def Y29 : TyE Try.prog := ⟨29, 3, (.struct [(0, 27, 2), (2, 2, 1)]), [.i64 ⟨0, rfl⟩, .i64 ⟨0, rfl⟩, .i64 ⟨0, rfl⟩], false, by kernel_rfl, by kernel_rfl, by kernel_rfl, by kernel_rfl, by kernel_rfl, by kernel_rfl⟩
noncomputable def B8 : Bod Try.prog := ⟨8, Try.f8, Try.f8.body.getD .skip, Try.func8, by kernel_rfl, by kernel_rfl, Loops.no _ _⟩
noncomputable def Tb8 : Tb Try.prog := { T := [Y2, Y23, Y25, Y27, Y29], mix := mix, Es := [E_laws_toPoint], Bs := [], d := 1 }
def t_laws_toPlace (a0 : Place) : Tr (Place) :=
  .leaf ⟨(F_laws_toPoint a0.pt), a0.h⟩
theorem r_laws_toPlace (a0 : Place) : Tb8.run B8 [enc a0] (Place) = (t_laws_toPlace a0).opt := by kernel_rfl
def F_laws_toPlace : Place → Place := fun a0 => (t_laws_toPlace a0).get
theorem u_laws_toPlace (a0 : Place) : (t_laws_toPlace a0).opt = some (F_laws_toPlace a0) := Tr.tot_get (by kernel_rfl)
noncomputable def E_laws_toPlace : Ent Try.prog := .of1 Tb8 B8 (fun _ => true) F_laws_toPlace fun a0 _ => (r_laws_toPlace a0).trans (u_laws_toPlace a0)
noncomputable def B28 : Bod Try.prog := ⟨28, Try.f28, Try.f28.body.getD .skip, Try.func28, by kernel_rfl, by kernel_rfl, Loops.no _ _⟩
noncomputable def Tb28 : Tb Try.prog := { T := [], mix := mix, Es := [], Bs := [], d := 1 }
def t_spec_l00In (a0 : I64) (a1 : I64) (a2 : I64) : Tr (Bool) :=
  .br (decide (a0.val ≥ a1.val)) (.leaf (decide (a0.val ≤ a2.val))) (.leaf false)
theorem r_spec_l00In (a0 : I64) (a1 : I64) (a2 : I64) : Tb28.run B28 [enc a0, enc a1, enc a2] (Bool) = (t_spec_l00In a0 a1 a2).opt := by kernel_rfl
def F_spec_l00In : I64 → I64 → I64 → Bool := fun a0 a1 a2 => (t_spec_l00In a0 a1 a2).get
theorem u_spec_l00In (a0 : I64) (a1 : I64) (a2 : I64) : (t_spec_l00In a0 a1 a2).opt = some (F_spec_l00In a0 a1 a2) := Tr.tot_get (by kernel_rfl)
noncomputable def E_spec_l00In : Ent Try.prog := .of3 Tb28 B28 (fun _ _ _ => true) F_spec_l00In fun a0 a1 a2 _ => (r_spec_l00In a0 a1 a2).trans (u_spec_l00In a0 a1 a2)
noncomputable def B33 : Bod Try.prog := ⟨33, Try.f33, Try.f33.body.getD .skip, Try.func33, by kernel_rfl, by kernel_rfl, Loops.no _ _⟩
noncomputable def Tb33 : Tb Try.prog := { T := [Y2, Y27], mix := mix, Es := [E_spec_l00In], Bs := [], d := 1 }
def t_spec_l11Ok (a0 : Point) : Tr (Bool) :=
  .br (F_spec_l00In a0.lat ⟨(-900000000), rfl⟩ ⟨900000000, rfl⟩) (.leaf (F_spec_l00In a0.lon ⟨(-1799999999), rfl⟩ ⟨1800000000, rfl⟩)) (.leaf false)
theorem r_spec_l11Ok (a0 : Point) : Tb33.run B33 [enc a0] (Bool) = (t_spec_l11Ok a0).opt := by kernel_rfl
def F_spec_l11Ok : Point → Bool := fun a0 => (t_spec_l11Ok a0).get
theorem u_spec_l11Ok (a0 : Point) : (t_spec_l11Ok a0).opt = some (F_spec_l11Ok a0) := Tr.tot_get (by kernel_rfl)
noncomputable def E_spec_l11Ok : Ent Try.prog := .of1 Tb33 B33 (fun _ => true) F_spec_l11Ok fun a0 _ => (r_spec_l11Ok a0).trans (u_spec_l11Ok a0)
noncomputable def B19 : Bod Try.prog := ⟨19, Try.f19, Try.f19.body.getD .skip, Try.func19, by kernel_rfl, by kernel_rfl, Loops.no _ _⟩
noncomputable def B7 : Bod Try.prog := ⟨7, Try.f7, Try.f7.body.getD .skip, Try.func7, by kernel_rfl, by kernel_rfl, Loops.no _ _⟩
noncomputable def Tb7 : Tb Try.prog := { T := [Y2, Y27, Y29], mix := mix, Es := [E_spec_l00In, E_spec_l11Ok], Bs := [B19], d := 8 }
def t_spec_ValidPlace (a0 : Place) : Tr (Bool) :=
  .br (F_spec_l11Ok a0.pt) (.leaf (F_spec_l00In a0.h ⟨(-20000000), rfl⟩ ⟨20000000000, rfl⟩)) (.leaf false)
theorem r_spec_ValidPlace (a0 : Place) : Tb7.run B7 [enc a0] (Bool) = (t_spec_ValidPlace a0).opt := by kernel_rfl
def F_spec_ValidPlace : Place → Bool := fun a0 => (t_spec_ValidPlace a0).get
theorem u_spec_ValidPlace (a0 : Place) : (t_spec_ValidPlace a0).opt = some (F_spec_ValidPlace a0) := Tr.tot_get (by kernel_rfl)
noncomputable def E_spec_ValidPlace : Ent Try.prog := .of1 Tb7 B7 (fun _ => true) F_spec_ValidPlace fun a0 _ => (r_spec_ValidPlace a0).trans (u_spec_ValidPlace a0)
noncomputable def B23 : Bod Try.prog := ⟨23, Try.f23, Try.f23.body.getD .skip, Try.func23, by kernel_rfl, by kernel_rfl, Loops.no _ _⟩
noncomputable def Tb23 : Tb Try.prog := { T := [], mix := mix, Es := [], Bs := [], d := 1 }
def t_impl_within (a0 : I64) (a1 : I64) (a2 : I64) : Tr (Bool) :=
  .br (decide (a0.val ≥ a1.val)) (.leaf (decide (a0.val ≤ a2.val))) (.leaf false)
theorem r_impl_within (a0 : I64) (a1 : I64) (a2 : I64) : Tb23.run B23 [enc a0, enc a1, enc a2] (Bool) = (t_impl_within a0 a1 a2).opt := by kernel_rfl
def F_impl_within : I64 → I64 → I64 → Bool := fun a0 a1 a2 => (t_impl_within a0 a1 a2).get
theorem u_impl_within (a0 : I64) (a1 : I64) (a2 : I64) : (t_impl_within a0 a1 a2).opt = some (F_impl_within a0 a1 a2) := Tr.tot_get (by kernel_rfl)
noncomputable def E_impl_within : Ent Try.prog := .of3 Tb23 B23 (fun _ _ _ => true) F_impl_within fun a0 a1 a2 _ => (r_impl_within a0 a1 a2).trans (u_impl_within a0 a1 a2)
noncomputable def B20 : Bod Try.prog := ⟨20, Try.f20, Try.f20.body.getD .skip, Try.func20, by kernel_rfl, by kernel_rfl, Loops.no _ _⟩
noncomputable def Tb20 : Tb Try.prog := { T := [Y2, Y27], mix := mix, Es := [E_impl_within], Bs := [], d := 1 }
def t_impl_ValidPoint (a0 : Point) : Tr (Bool) :=
  .br (F_impl_within a0.lat ⟨(-900000000), rfl⟩ ⟨900000000, rfl⟩) (.br (decide (a0.lon.val > (-1800000000))) (.leaf (decide (a0.lon.val ≤ 1800000000))) (.leaf false)) (.leaf false)
theorem r_impl_ValidPoint (a0 : Point) : Tb20.run B20 [enc a0] (Bool) = (t_impl_ValidPoint a0).opt := by kernel_rfl
def F_impl_ValidPoint : Point → Bool := fun a0 => (t_impl_ValidPoint a0).get
theorem u_impl_ValidPoint (a0 : Point) : (t_impl_ValidPoint a0).opt = some (F_impl_ValidPoint a0) := Tr.tot_get (by kernel_rfl)
noncomputable def E_impl_ValidPoint : Ent Try.prog := .of1 Tb20 B20 (fun _ => true) F_impl_ValidPoint fun a0 _ => (r_impl_ValidPoint a0).trans (u_impl_ValidPoint a0)
noncomputable def B21 : Bod Try.prog := ⟨21, Try.f21, Try.f21.body.getD .skip, Try.func21, by kernel_rfl, by kernel_rfl, Loops.no _ _⟩
noncomputable def Tb21 : Tb Try.prog := { T := [], mix := mix, Es := [E_impl_within], Bs := [], d := 1 }
def t_impl_isHeight (a0 : I64) : Tr (Bool) :=
  .leaf (F_impl_within a0 ⟨(-20000000), rfl⟩ ⟨20000000000, rfl⟩)
theorem r_impl_isHeight (a0 : I64) : Tb21.run B21 [enc a0] (Bool) = (t_impl_isHeight a0).opt := by kernel_rfl
def F_impl_isHeight : I64 → Bool := fun a0 => (t_impl_isHeight a0).get
theorem u_impl_isHeight (a0 : I64) : (t_impl_isHeight a0).opt = some (F_impl_isHeight a0) := Tr.tot_get (by kernel_rfl)
noncomputable def E_impl_isHeight : Ent Try.prog := .of1 Tb21 B21 (fun _ => true) F_impl_isHeight fun a0 _ => (r_impl_isHeight a0).trans (u_impl_isHeight a0)
noncomputable def B9 : Bod Try.prog := ⟨9, Try.f9, Try.f9.body.getD .skip, Try.func9, by kernel_rfl, by kernel_rfl, Loops.no _ _⟩
noncomputable def Tb9 : Tb Try.prog := { T := [Y2, Y27, Y29], mix := mix, Es := [E_impl_ValidPoint, E_impl_isHeight], Bs := [], d := 1 }
def t_impl_ValidPlace (a0 : Place) : Tr (Bool) :=
  .br (F_impl_ValidPoint a0.pt) (.leaf (F_impl_isHeight a0.h)) (.leaf false)
theorem r_impl_ValidPlace (a0 : Place) : Tb9.run B9 [enc a0] (Bool) = (t_impl_ValidPlace a0).opt := by kernel_rfl
def F_impl_ValidPlace : Place → Bool := fun a0 => (t_impl_ValidPlace a0).get
theorem u_impl_ValidPlace (a0 : Place) : (t_impl_ValidPlace a0).opt = some (F_impl_ValidPlace a0) := Tr.tot_get (by kernel_rfl)
noncomputable def E_impl_ValidPlace : Ent Try.prog := .of1 Tb9 B9 (fun _ => true) F_impl_ValidPlace fun a0 _ => (r_impl_ValidPlace a0).trans (u_impl_ValidPlace a0)
noncomputable def Y4 : TyE Try.prog := ⟨4, 1, .bool, [.bool false], false, by kernel_rfl, by kernel_rfl, by kernel_rfl, by kernel_rfl, by kernel_rfl, by kernel_rfl⟩
noncomputable def B3 : Bod Try.prog := ⟨3, Try.f3, Try.f3.body.getD .skip, Try.func3, by kernel_rfl, by kernel_rfl, Loops.no _ _⟩
noncomputable def Tb3 : Tb Try.prog := { T := [Y4, Y25], mix := mix, Es := [E_spec_ValidPlace, E_laws_toPlace, E_impl_ValidPlace], Bs := [], d := 1 }
def t_laws_FnExactValidPlace (a0 : Place) : Tr (Bool) :=
  .br (!((F_impl_ValidPlace (F_laws_toPlace a0)) == (F_spec_ValidPlace (F_laws_toPlace a0)))) (.leaf false) (.leaf true)
theorem r_laws_FnExactValidPlace (a0 : Place) : Tb3.run B3 [enc a0] (Bool) = (t_laws_FnExactValidPlace a0).opt := by kernel_rfl
def F_laws_FnExactValidPlace : Place → Bool := fun a0 => (t_laws_FnExactValidPlace a0).get
theorem u_laws_FnExactValidPlace (a0 : Place) : (t_laws_FnExactValidPlace a0).opt = some (F_laws_FnExactValidPlace a0) := Tr.tot_get (by kernel_rfl)
noncomputable def E_laws_FnExactValidPlace : Ent Try.prog := .of1 Tb3 B3 (fun _ => true) F_laws_FnExactValidPlace fun a0 _ => (r_laws_FnExactValidPlace a0).trans (u_laws_FnExactValidPlace a0)
end
end Go.Proofs.Ytlhbapgmkkgfgaa.Ev
