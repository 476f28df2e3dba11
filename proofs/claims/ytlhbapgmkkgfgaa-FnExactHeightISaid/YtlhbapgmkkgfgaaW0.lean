import Derived.Test.YtlhbapgmkkgfgaaEv8
import Derived.Test.YtlhbapgmkkgfgaaChecked
import Derived.KernelRfl
namespace Go.Proofs.Ytlhbapgmkkgfgaa.Ev
open Go Go.RowKit
set_option maxRecDepth 100000
set_option linter.unusedVariables false
section
theorem mix : Try.prog.follows .mixedOrders = true := by kernel_rfl
noncomputable def Y2 : TyE Try.prog := ⟨2, 1, (.int .i64), [.i64 ⟨0, rfl⟩], false, by kernel_rfl, by kernel_rfl, by kernel_rfl, by kernel_rfl, by kernel_rfl, by kernel_rfl⟩
noncomputable def Y23 : TyE Try.prog := ⟨23, 2, (.struct [(0, 2, 1), (1, 2, 1)]), [.i64 ⟨0, rfl⟩, .i64 ⟨0, rfl⟩], true, by kernel_rfl, by kernel_rfl, by kernel_rfl, by kernel_rfl, by kernel_rfl, by kernel_rfl⟩
noncomputable def Y27 : TyE Try.prog := ⟨27, 2, (.struct [(0, 2, 1), (1, 2, 1)]), [.i64 ⟨0, rfl⟩, .i64 ⟨0, rfl⟩], true, by kernel_rfl, by kernel_rfl, by kernel_rfl, by kernel_rfl, by kernel_rfl, by kernel_rfl⟩
noncomputable def B17 : Bod Try.prog := ⟨17, Try.f17, Try.f17.body.getD .skip, Try.func17, by kernel_rfl, by kernel_rfl, Loops.no _ _⟩
noncomputable def Tb17 : Tb Try.prog := { T := [Y2, Y23, Y27], mix := mix, Es := [], Bs := [], d := 1 }
noncomputable def t_laws_toPoint (a0 : Point) : Tr (Point) :=
  .leaf a0
theorem r_laws_toPoint (a0 : Point) : Tb17.run B17 [enc a0] (Point) = (t_laws_toPoint a0).opt := by kernel_rfl
noncomputable def F_laws_toPoint : Point → Point := fun a0 => (t_laws_toPoint a0).get
theorem u_laws_toPoint (a0 : Point) : (t_laws_toPoint a0).opt = some (F_laws_toPoint a0) := Tr.tot_get (by kernel_rfl)
noncomputable def E_laws_toPoint : Ent Try.prog := .of1 Tb17 B17 (fun _ => true) F_laws_toPoint fun a0 _ => (r_laws_toPoint a0).trans (u_laws_toPoint a0)
noncomputable def Y25 : TyE Try.prog := ⟨25, 3, (.struct [(0, 23, 2), (2, 2, 1)]), [.i64 ⟨0, rfl⟩, .i64 ⟨0, rfl⟩, .i64 ⟨0, rfl⟩], false, by kernel_rfl, by kernel_rfl, by kernel_rfl, by kernel_rfl, by kernel_rfl, by kernel_rfl⟩
noncomputable def Y29 : TyE Try.prog := ⟨29, 3, (.struct [(0, 27, 2), (2, 2, 1)]), [.i64 ⟨0, rfl⟩, .i64 ⟨0, rfl⟩, .i64 ⟨0, rfl⟩], false, by kernel_rfl, by kernel_rfl, by kernel_rfl, by kernel_rfl, by kernel_rfl, by kernel_rfl⟩
noncomputable def B8 : Bod Try.prog := ⟨8, Try.f8, Try.f8.body.getD .skip, Try.func8, by kernel_rfl, by kernel_rfl, Loops.no _ _⟩
noncomputable def Tb8 : Tb Try.prog := { T := [Y2, Y23, Y25, Y27, Y29], mix := mix, Es := [E_laws_toPoint], Bs := [], d := 1 }
noncomputable def t_laws_toPlace (a0 : Place) : Tr (Place) :=
  .leaf ⟨(F_laws_toPoint a0.pt), a0.h⟩
theorem r_laws_toPlace (a0 : Place) : Tb8.run B8 [enc a0] (Place) = (t_laws_toPlace a0).opt := by kernel_rfl
noncomputable def F_laws_toPlace : Place → Place := fun a0 => (t_laws_toPlace a0).get
theorem u_laws_toPlace (a0 : Place) : (t_laws_toPlace a0).opt = some (F_laws_toPlace a0) := Tr.tot_get (by kernel_rfl)
noncomputable def E_laws_toPlace : Ent Try.prog := .of1 Tb8 B8 (fun _ => true) F_laws_toPlace fun a0 _ => (r_laws_toPlace a0).trans (u_laws_toPlace a0)
noncomputable def B28 : Bod Try.prog := ⟨28, Try.f28, Try.f28.body.getD .skip, Try.func28, by kernel_rfl, by kernel_rfl, Loops.no _ _⟩
noncomputable def Tb28 : Tb Try.prog := { T := [], mix := mix, Es := [], Bs := [], d := 1 }
noncomputable def t_spec_l00In (a0 : I64) (a1 : I64) (a2 : I64) : Tr (Bool) :=
  .br (decide (a0.val ≥ a1.val)) (.leaf (decide (a0.val ≤ a2.val))) (.leaf false)
theorem r_spec_l00In (a0 : I64) (a1 : I64) (a2 : I64) : Tb28.run B28 [enc a0, enc a1, enc a2] (Bool) = (t_spec_l00In a0 a1 a2).opt := by kernel_rfl
noncomputable def F_spec_l00In : I64 → I64 → I64 → Bool := fun a0 a1 a2 => (t_spec_l00In a0 a1 a2).get
theorem u_spec_l00In (a0 : I64) (a1 : I64) (a2 : I64) : (t_spec_l00In a0 a1 a2).opt = some (F_spec_l00In a0 a1 a2) := Tr.tot_get (by kernel_rfl)
noncomputable def E_spec_l00In : Ent Try.prog := .of3 Tb28 B28 (fun _ _ _ => true) F_spec_l00In fun a0 a1 a2 _ => (r_spec_l00In a0 a1 a2).trans (u_spec_l00In a0 a1 a2)
noncomputable def B33 : Bod Try.prog := ⟨33, Try.f33, Try.f33.body.getD .skip, Try.func33, by kernel_rfl, by kernel_rfl, Loops.no _ _⟩
noncomputable def Tb33 : Tb Try.prog := { T := [Y2, Y27], mix := mix, Es := [E_spec_l00In], Bs := [], d := 1 }
noncomputable def t_spec_l11Ok (a0 : Point) : Tr (Bool) :=
  .br (F_spec_l00In a0.lat ⟨(-900000000), rfl⟩ ⟨900000000, rfl⟩) (.leaf (F_spec_l00In a0.lon ⟨(-1799999999), rfl⟩ ⟨1800000000, rfl⟩)) (.leaf false)
theorem r_spec_l11Ok (a0 : Point) : Tb33.run B33 [enc a0] (Bool) = (t_spec_l11Ok a0).opt := by kernel_rfl
noncomputable def F_spec_l11Ok : Point → Bool := fun a0 => (t_spec_l11Ok a0).get
theorem u_spec_l11Ok (a0 : Point) : (t_spec_l11Ok a0).opt = some (F_spec_l11Ok a0) := Tr.tot_get (by kernel_rfl)
noncomputable def E_spec_l11Ok : Ent Try.prog := .of1 Tb33 B33 (fun _ => true) F_spec_l11Ok fun a0 _ => (r_spec_l11Ok a0).trans (u_spec_l11Ok a0)
noncomputable def B19 : Bod Try.prog := ⟨19, Try.f19, Try.f19.body.getD .skip, Try.func19, by kernel_rfl, by kernel_rfl, Loops.no _ _⟩
noncomputable def B7 : Bod Try.prog := ⟨7, Try.f7, Try.f7.body.getD .skip, Try.func7, by kernel_rfl, by kernel_rfl, Loops.no _ _⟩
noncomputable def Tb7 : Tb Try.prog := { T := [Y2, Y27, Y29], mix := mix, Es := [E_spec_l00In, E_spec_l11Ok], Bs := [B19], d := 8 }
noncomputable def t_spec_ValidPlace (a0 : Place) : Tr (Bool) :=
  .br (F_spec_l11Ok a0.pt) (.leaf (F_spec_l00In a0.h ⟨(-20000000), rfl⟩ ⟨20000000000, rfl⟩)) (.leaf false)
theorem r_spec_ValidPlace (a0 : Place) : Tb7.run B7 [enc a0] (Bool) = (t_spec_ValidPlace a0).opt := by kernel_rfl
noncomputable def F_spec_ValidPlace : Place → Bool := fun a0 => (t_spec_ValidPlace a0).get
theorem u_spec_ValidPlace (a0 : Place) : (t_spec_ValidPlace a0).opt = some (F_spec_ValidPlace a0) := Tr.tot_get (by kernel_rfl)
noncomputable def E_spec_ValidPlace : Ent Try.prog := .of1 Tb7 B7 (fun _ => true) F_spec_ValidPlace fun a0 _ => (r_spec_ValidPlace a0).trans (u_spec_ValidPlace a0)
noncomputable def B23 : Bod Try.prog := ⟨23, Try.f23, Try.f23.body.getD .skip, Try.func23, by kernel_rfl, by kernel_rfl, Loops.no _ _⟩
noncomputable def Tb23 : Tb Try.prog := { T := [], mix := mix, Es := [], Bs := [], d := 1 }
noncomputable def t_impl_within (a0 : I64) (a1 : I64) (a2 : I64) : Tr (Bool) :=
  .br (decide (a0.val ≥ a1.val)) (.leaf (decide (a0.val ≤ a2.val))) (.leaf false)
theorem r_impl_within (a0 : I64) (a1 : I64) (a2 : I64) : Tb23.run B23 [enc a0, enc a1, enc a2] (Bool) = (t_impl_within a0 a1 a2).opt := by kernel_rfl
noncomputable def F_impl_within : I64 → I64 → I64 → Bool := fun a0 a1 a2 => (t_impl_within a0 a1 a2).get
theorem u_impl_within (a0 : I64) (a1 : I64) (a2 : I64) : (t_impl_within a0 a1 a2).opt = some (F_impl_within a0 a1 a2) := Tr.tot_get (by kernel_rfl)
noncomputable def E_impl_within : Ent Try.prog := .of3 Tb23 B23 (fun _ _ _ => true) F_impl_within fun a0 a1 a2 _ => (r_impl_within a0 a1 a2).trans (u_impl_within a0 a1 a2)
noncomputable def B20 : Bod Try.prog := ⟨20, Try.f20, Try.f20.body.getD .skip, Try.func20, by kernel_rfl, by kernel_rfl, Loops.no _ _⟩
noncomputable def Tb20 : Tb Try.prog := { T := [Y2, Y27], mix := mix, Es := [E_impl_within], Bs := [], d := 1 }
noncomputable def t_impl_ValidPoint (a0 : Point) : Tr (Bool) :=
  .br (F_impl_within a0.lat ⟨(-900000000), rfl⟩ ⟨900000000, rfl⟩) (.br (decide (a0.lon.val > (-1800000000))) (.leaf (decide (a0.lon.val ≤ 1800000000))) (.leaf false)) (.leaf false)
theorem r_impl_ValidPoint (a0 : Point) : Tb20.run B20 [enc a0] (Bool) = (t_impl_ValidPoint a0).opt := by kernel_rfl
noncomputable def F_impl_ValidPoint : Point → Bool := fun a0 => (t_impl_ValidPoint a0).get
theorem u_impl_ValidPoint (a0 : Point) : (t_impl_ValidPoint a0).opt = some (F_impl_ValidPoint a0) := Tr.tot_get (by kernel_rfl)
noncomputable def E_impl_ValidPoint : Ent Try.prog := .of1 Tb20 B20 (fun _ => true) F_impl_ValidPoint fun a0 _ => (r_impl_ValidPoint a0).trans (u_impl_ValidPoint a0)
noncomputable def B21 : Bod Try.prog := ⟨21, Try.f21, Try.f21.body.getD .skip, Try.func21, by kernel_rfl, by kernel_rfl, Loops.no _ _⟩
noncomputable def Tb21 : Tb Try.prog := { T := [], mix := mix, Es := [E_impl_within], Bs := [], d := 1 }
noncomputable def t_impl_isHeight (a0 : I64) : Tr (Bool) :=
  .leaf (F_impl_within a0 ⟨(-20000000), rfl⟩ ⟨20000000000, rfl⟩)
theorem r_impl_isHeight (a0 : I64) : Tb21.run B21 [enc a0] (Bool) = (t_impl_isHeight a0).opt := by kernel_rfl
noncomputable def F_impl_isHeight : I64 → Bool := fun a0 => (t_impl_isHeight a0).get
theorem u_impl_isHeight (a0 : I64) : (t_impl_isHeight a0).opt = some (F_impl_isHeight a0) := Tr.tot_get (by kernel_rfl)
noncomputable def E_impl_isHeight : Ent Try.prog := .of1 Tb21 B21 (fun _ => true) F_impl_isHeight fun a0 _ => (r_impl_isHeight a0).trans (u_impl_isHeight a0)
noncomputable def B9 : Bod Try.prog := ⟨9, Try.f9, Try.f9.body.getD .skip, Try.func9, by kernel_rfl, by kernel_rfl, Loops.no _ _⟩
noncomputable def Tb9 : Tb Try.prog := { T := [Y2, Y27, Y29], mix := mix, Es := [E_impl_ValidPoint, E_impl_isHeight], Bs := [], d := 1 }
noncomputable def t_impl_ValidPlace (a0 : Place) : Tr (Bool) :=
  .br (F_impl_ValidPoint a0.pt) (.leaf (F_impl_isHeight a0.h)) (.leaf false)
theorem r_impl_ValidPlace (a0 : Place) : Tb9.run B9 [enc a0] (Bool) = (t_impl_ValidPlace a0).opt := by kernel_rfl
noncomputable def F_impl_ValidPlace : Place → Bool := fun a0 => (t_impl_ValidPlace a0).get
theorem u_impl_ValidPlace (a0 : Place) : (t_impl_ValidPlace a0).opt = some (F_impl_ValidPlace a0) := Tr.tot_get (by kernel_rfl)
noncomputable def E_impl_ValidPlace : Ent Try.prog := .of1 Tb9 B9 (fun _ => true) F_impl_ValidPlace fun a0 _ => (r_impl_ValidPlace a0).trans (u_impl_ValidPlace a0)
noncomputable def Y4 : TyE Try.prog := ⟨4, 1, .bool, [.bool false], false, by kernel_rfl, by kernel_rfl, by kernel_rfl, by kernel_rfl, by kernel_rfl, by kernel_rfl⟩
noncomputable def B3 : Bod Try.prog := ⟨3, Try.f3, Try.f3.body.getD .skip, Try.func3, by kernel_rfl, by kernel_rfl, Loops.no _ _⟩
noncomputable def Tb3 : Tb Try.prog := { T := [Y4, Y25], mix := mix, Es := [E_spec_ValidPlace, E_laws_toPlace, E_impl_ValidPlace], Bs := [], d := 1 }
noncomputable def t_laws_FnExactValidPlace (a0 : Place) : Tr (Bool) :=
  .br (!((F_impl_ValidPlace (F_laws_toPlace a0)) == (F_spec_ValidPlace (F_laws_toPlace a0)))) (.leaf false) (.leaf true)
theorem r_laws_FnExactValidPlace (a0 : Place) : Tb3.run B3 [enc a0] (Bool) = (t_laws_FnExactValidPlace a0).opt := by kernel_rfl
noncomputable def F_laws_FnExactValidPlace : Place → Bool := fun a0 => (t_laws_FnExactValidPlace a0).get
theorem u_laws_FnExactValidPlace (a0 : Place) : (t_laws_FnExactValidPlace a0).opt = some (F_laws_FnExactValidPlace a0) := Tr.tot_get (by kernel_rfl)
noncomputable def E_laws_FnExactValidPlace : Ent Try.prog := .of1 Tb3 B3 (fun _ => true) F_laws_FnExactValidPlace fun a0 _ => (r_laws_FnExactValidPlace a0).trans (u_laws_FnExactValidPlace a0)
noncomputable def Y33 : TyE Try.prog := ⟨33, 5, (.struct [(0, 2, 1), (1, 2, 1), (2, 2, 1), (3, 2, 1), (4, 2, 1)]), [.i64 ⟨0, rfl⟩, .i64 ⟨0, rfl⟩, .i64 ⟨0, rfl⟩, .i64 ⟨0, rfl⟩, .i64 ⟨0, rfl⟩], true, by kernel_rfl, by kernel_rfl, by kernel_rfl, by kernel_rfl, by kernel_rfl, by kernel_rfl⟩
noncomputable def Y35 : TyE Try.prog := ⟨35, 5, (.struct [(0, 2, 1), (1, 2, 1), (2, 2, 1), (3, 2, 1), (4, 2, 1)]), [.i64 ⟨0, rfl⟩, .i64 ⟨0, rfl⟩, .i64 ⟨0, rfl⟩, .i64 ⟨0, rfl⟩, .i64 ⟨0, rfl⟩], true, by kernel_rfl, by kernel_rfl, by kernel_rfl, by kernel_rfl, by kernel_rfl, by kernel_rfl⟩
noncomputable def B11 : Bod Try.prog := ⟨11, Try.f11, Try.f11.body.getD .skip, Try.func11, by kernel_rfl, by kernel_rfl, Loops.no _ _⟩
noncomputable def Tb11 : Tb Try.prog := { T := [Y2, Y33, Y35], mix := mix, Es := [], Bs := [], d := 1 }
noncomputable def t_laws_toProjection (a0 : Proj) : Tr (Proj) :=
  .leaf a0
theorem r_laws_toProjection (a0 : Proj) : Tb11.run B11 [enc a0] (Proj) = (t_laws_toProjection a0).opt := by kernel_rfl
noncomputable def F_laws_toProjection : Proj → Proj := fun a0 => (t_laws_toProjection a0).get
theorem u_laws_toProjection (a0 : Proj) : (t_laws_toProjection a0).opt = some (F_laws_toProjection a0) := Tr.tot_get (by kernel_rfl)
noncomputable def E_laws_toProjection : Ent Try.prog := .of1 Tb11 B11 (fun _ => true) F_laws_toProjection fun a0 _ => (r_laws_toProjection a0).trans (u_laws_toProjection a0)
noncomputable def B38 : Bod Try.prog := ⟨38, Try.f38, Try.f38.body.getD .skip, Try.func38, by kernel_rfl, by kernel_rfl, Loops.no _ _⟩
noncomputable def Tb38 : Tb Try.prog := { T := [], mix := mix, Es := [E_spec_l00In], Bs := [], d := 1 }
noncomputable def t_spec_l17Standard (a0 : I64) : Tr (Bool) :=
  .leaf (F_spec_l00In a0 ⟨(-890000000), rfl⟩ ⟨890000000, rfl⟩)
theorem r_spec_l17Standard (a0 : I64) : Tb38.run B38 [enc a0] (Bool) = (t_spec_l17Standard a0).opt := by kernel_rfl
noncomputable def F_spec_l17Standard : I64 → Bool := fun a0 => (t_spec_l17Standard a0).get
theorem u_spec_l17Standard (a0 : I64) : (t_spec_l17Standard a0).opt = some (F_spec_l17Standard a0) := Tr.tot_get (by kernel_rfl)
noncomputable def E_spec_l17Standard : Ent Try.prog := .of1 Tb38 B38 (fun _ => true) F_spec_l17Standard fun a0 _ => (r_spec_l17Standard a0).trans (u_spec_l17Standard a0)
noncomputable def B22 : Bod Try.prog := ⟨22, Try.f22, Try.f22.body.getD .skip, Try.func22, by kernel_rfl, by kernel_rfl, Loops.no _ _⟩
noncomputable def Tb22 : Tb Try.prog := { T := [Y2, Y27, Y35], mix := mix, Es := [E_spec_l11Ok, E_spec_l17Standard], Bs := [], d := 1 }
noncomputable def t_spec_l17Ok (a0 : Proj) : Tr (Bool) :=
  .br (!(F_spec_l11Ok ⟨a0.lat0, a0.lon0⟩)) (.leaf false) (.br (!(F_spec_l17Standard a0.lat1)) (.leaf false) (.br (!(F_spec_l17Standard a0.lat2)) (.leaf false) (.br (a0.kind.val == 1) (.br (a0.lat0.val == 0) (.leaf (a0.lat2.val == 0)) (.leaf false)) (.br (a0.kind.val == 3) (.br (a0.lat0.val == 0) (.leaf (a0.lat2.val == 0)) (.leaf false)) (.br (a0.kind.val == 2) (.br (a0.lat0.val == 0) (.br (a0.lat1.val == 0) (.leaf (a0.lat2.val == 0)) (.leaf false)) (.leaf false)) (.br (a0.kind.val == 4) (.br (a0.lat0.val == 0) (.br (a0.lat1.val == 0) (.leaf (a0.lat2.val == 0)) (.leaf false)) (.leaf false)) (.br (a0.kind.val == 13) (.br (a0.lat0.val == 0) (.br (a0.lat1.val == 0) (.leaf (a0.lat2.val == 0)) (.leaf false)) (.leaf false)) (.br (a0.kind.val == 14) (.br (a0.lat0.val == 0) (.br (a0.lat1.val == 0) (.leaf (a0.lat2.val == 0)) (.leaf false)) (.leaf false)) (.br (a0.kind.val == 15) (.br (a0.lat0.val == 0) (.br (a0.lat1.val == 0) (.leaf (a0.lat2.val == 0)) (.leaf false)) (.leaf false)) (.br (a0.kind.val == 5) (.br (a0.lat1.val == 0) (.leaf (a0.lat2.val == 0)) (.leaf false)) (.br (a0.kind.val == 6) (.br (a0.lat1.val == 0) (.leaf (a0.lat2.val == 0)) (.leaf false)) (.br (a0.kind.val == 7) (.br (a0.lat1.val == 0) (.leaf (a0.lat2.val == 0)) (.leaf false)) (.br (a0.kind.val == 8) (.br (a0.lat1.val == 0) (.leaf (a0.lat2.val == 0)) (.leaf false)) (.br (a0.kind.val == 9) (.br (a0.lat1.val == 0) (.leaf (a0.lat2.val == 0)) (.leaf false)) (.br (a0.kind.val == 16) (.br (a0.lat1.val == 0) (.leaf (a0.lat2.val == 0)) (.leaf false)) (.br (a0.kind.val == 10) (let c4 := (Rng.w .i64 (a0.lat1.val + a0.lat2.val)); .br (decide (c4.val ≥ 10000000)) (.leaf true) (.leaf (decide (c4.val ≤ (-10000000))))) (.br (a0.kind.val == 11) (let c7 := (Rng.w .i64 (a0.lat1.val + a0.lat2.val)); .br (decide (c7.val ≥ 10000000)) (.leaf true) (.leaf (decide (c7.val ≤ (-10000000))))) (.br (a0.kind.val == 12) (let c10 := (Rng.w .i64 (a0.lat1.val + a0.lat2.val)); .br (decide (c10.val ≥ 10000000)) (.leaf true) (.leaf (decide (c10.val ≤ (-10000000))))) (.leaf false)))))))))))))))))))
theorem r_spec_l17Ok (a0 : Proj) : Tb22.run B22 [enc a0] (Bool) = (t_spec_l17Ok a0).opt := by kernel_rfl
noncomputable def F_spec_l17Ok : Proj → Bool := fun a0 => (t_spec_l17Ok a0).get
theorem u_spec_l17Ok (a0 : Proj) : (t_spec_l17Ok a0).opt = some (F_spec_l17Ok a0) := Tr.tot_get (by kernel_rfl)
noncomputable def E_spec_l17Ok : Ent Try.prog := .of1 Tb22 B22 (fun _ => true) F_spec_l17Ok fun a0 _ => (r_spec_l17Ok a0).trans (u_spec_l17Ok a0)
noncomputable def B10 : Bod Try.prog := ⟨10, Try.f10, Try.f10.body.getD .skip, Try.func10, by kernel_rfl, by kernel_rfl, Loops.no _ _⟩
noncomputable def Tb10 : Tb Try.prog := { T := [Y35], mix := mix, Es := [E_spec_l17Ok], Bs := [], d := 1 }
noncomputable def t_spec_ValidProjection (a0 : Proj) : Tr (Bool) :=
  .leaf (F_spec_l17Ok a0)
theorem r_spec_ValidProjection (a0 : Proj) : Tb10.run B10 [enc a0] (Bool) = (t_spec_ValidProjection a0).opt := by kernel_rfl
noncomputable def F_spec_ValidProjection : Proj → Bool := fun a0 => (t_spec_ValidProjection a0).get
theorem u_spec_ValidProjection (a0 : Proj) : (t_spec_ValidProjection a0).opt = some (F_spec_ValidProjection a0) := Tr.tot_get (by kernel_rfl)
noncomputable def E_spec_ValidProjection : Ent Try.prog := .of1 Tb10 B10 (fun _ => true) F_spec_ValidProjection fun a0 _ => (r_spec_ValidProjection a0).trans (u_spec_ValidProjection a0)
noncomputable def B24 : Bod Try.prog := ⟨24, Try.f24, Try.f24.body.getD .skip, Try.func24, by kernel_rfl, by kernel_rfl, Loops.no _ _⟩
noncomputable def Tb24 : Tb Try.prog := { T := [], mix := mix, Es := [E_impl_within], Bs := [], d := 1 }
noncomputable def t_impl_isStandard (a0 : I64) : Tr (Bool) :=
  .leaf (F_impl_within a0 ⟨(-890000000), rfl⟩ ⟨890000000, rfl⟩)
theorem r_impl_isStandard (a0 : I64) : Tb24.run B24 [enc a0] (Bool) = (t_impl_isStandard a0).opt := by kernel_rfl
noncomputable def F_impl_isStandard : I64 → Bool := fun a0 => (t_impl_isStandard a0).get
theorem u_impl_isStandard (a0 : I64) : (t_impl_isStandard a0).opt = some (F_impl_isStandard a0) := Tr.tot_get (by kernel_rfl)
noncomputable def E_impl_isStandard : Ent Try.prog := .of1 Tb24 B24 (fun _ => true) F_impl_isStandard fun a0 _ => (r_impl_isStandard a0).trans (u_impl_isStandard a0)
noncomputable def B25 : Bod Try.prog := ⟨25, Try.f25, Try.f25.body.getD .skip, Try.func25, by kernel_rfl, by kernel_rfl, Loops.no _ _⟩
noncomputable def Tb25 : Tb Try.prog := { T := [], mix := mix, Es := [E_impl_within], Bs := [], d := 1 }
noncomputable def t_impl_isAzimuthal (a0 : I64) : Tr (Bool) :=
  .leaf (F_impl_within a0 ⟨5, rfl⟩ ⟨9, rfl⟩)
theorem r_impl_isAzimuthal (a0 : I64) : Tb25.run B25 [enc a0] (Bool) = (t_impl_isAzimuthal a0).opt := by kernel_rfl
noncomputable def F_impl_isAzimuthal : I64 → Bool := fun a0 => (t_impl_isAzimuthal a0).get
theorem u_impl_isAzimuthal (a0 : I64) : (t_impl_isAzimuthal a0).opt = some (F_impl_isAzimuthal a0) := Tr.tot_get (by kernel_rfl)
noncomputable def E_impl_isAzimuthal : Ent Try.prog := .of1 Tb25 B25 (fun _ => true) F_impl_isAzimuthal fun a0 _ => (r_impl_isAzimuthal a0).trans (u_impl_isAzimuthal a0)
noncomputable def B26 : Bod Try.prog := ⟨26, Try.f26, Try.f26.body.getD .skip, Try.func26, by kernel_rfl, by kernel_rfl, Loops.no _ _⟩
noncomputable def Tb26 : Tb Try.prog := { T := [], mix := mix, Es := [E_impl_within], Bs := [], d := 1 }
noncomputable def t_impl_isConic (a0 : I64) : Tr (Bool) :=
  .leaf (F_impl_within a0 ⟨10, rfl⟩ ⟨12, rfl⟩)
theorem r_impl_isConic (a0 : I64) : Tb26.run B26 [enc a0] (Bool) = (t_impl_isConic a0).opt := by kernel_rfl
noncomputable def F_impl_isConic : I64 → Bool := fun a0 => (t_impl_isConic a0).get
theorem u_impl_isConic (a0 : I64) : (t_impl_isConic a0).opt = some (F_impl_isConic a0) := Tr.tot_get (by kernel_rfl)
noncomputable def E_impl_isConic : Ent Try.prog := .of1 Tb26 B26 (fun _ => true) F_impl_isConic fun a0 _ => (r_impl_isConic a0).trans (u_impl_isConic a0)
noncomputable def B27 : Bod Try.prog := ⟨27, Try.f27, Try.f27.body.getD .skip, Try.func27, by kernel_rfl, by kernel_rfl, Loops.no _ _⟩
noncomputable def Tb27 : Tb Try.prog := { T := [], mix := mix, Es := [], Bs := [], d := 1 }
noncomputable def t_impl_abs (a0 : I64) : Tr (I64) :=
  .leaf (mx a0 (Rng.w .i64 (0 - a0.val)))
theorem r_impl_abs (a0 : I64) : Tb27.run B27 [enc a0] (I64) = (t_impl_abs a0).opt := by kernel_rfl
noncomputable def F_impl_abs : I64 → I64 := fun a0 => (t_impl_abs a0).get
theorem u_impl_abs (a0 : I64) : (t_impl_abs a0).opt = some (F_impl_abs a0) := Tr.tot_get (by kernel_rfl)
noncomputable def E_impl_abs : Ent Try.prog := .of1 Tb27 B27 (fun _ => true) F_impl_abs fun a0 _ => (r_impl_abs a0).trans (u_impl_abs a0)
noncomputable def B12 : Bod Try.prog := ⟨12, Try.f12, Try.f12.body.getD .skip, Try.func12, by kernel_rfl, by kernel_rfl, Loops.no _ _⟩
noncomputable def Tb12 : Tb Try.prog := { T := [Y2, Y27, Y35], mix := mix, Es := [E_impl_ValidPoint, E_impl_within, E_impl_isStandard, E_impl_isAzimuthal, E_impl_isConic, E_impl_abs], Bs := [], d := 1 }
noncomputable def t_impl_ValidProjection (a0 : Proj) : Tr (Bool) :=
  .br (!(F_impl_within a0.kind ⟨1, rfl⟩ ⟨16, rfl⟩)) (.leaf false) (.br (!(F_impl_ValidPoint ⟨a0.lat0, a0.lon0⟩)) (.leaf false) (.br (!(F_impl_isStandard a0.lat1)) (.leaf false) (.br (!(F_impl_isStandard a0.lat2)) (.leaf false) (.br (F_impl_isAzimuthal a0.kind) (.br (F_impl_isConic a0.kind) (.br (!(F_impl_isConic a0.kind)) (.br (a0.lat2.val != 0) (.leaf false) (.br (!(F_impl_isConic a0.kind)) (.leaf true) (.leaf (decide ((F_impl_abs (Rng.w .i64 (a0.lat1.val + a0.lat2.val))).val ≥ 10000000))))) (.br (!(F_impl_isConic a0.kind)) (.leaf true) (.leaf (decide ((F_impl_abs (Rng.w .i64 (a0.lat1.val + a0.lat2.val))).val ≥ 10000000))))) (.br (a0.kind.val == 1) (.br (!(F_impl_isConic a0.kind)) (.br (a0.lat2.val != 0) (.leaf false) (.br (!(F_impl_isConic a0.kind)) (.leaf true) (.leaf (decide ((F_impl_abs (Rng.w .i64 (a0.lat1.val + a0.lat2.val))).val ≥ 10000000))))) (.br (!(F_impl_isConic a0.kind)) (.leaf true) (.leaf (decide ((F_impl_abs (Rng.w .i64 (a0.lat1.val + a0.lat2.val))).val ≥ 10000000))))) (.br (!(a0.kind.val == 3)) (.br (a0.lat1.val != 0) (.leaf false) (.br (!(F_impl_isConic a0.kind)) (.br (a0.lat2.val != 0) (.leaf false) (.br (!(F_impl_isConic a0.kind)) (.leaf true) (.leaf (decide ((F_impl_abs (Rng.w .i64 (a0.lat1.val + a0.lat2.val))).val ≥ 10000000))))) (.br (!(F_impl_isConic a0.kind)) (.leaf true) (.leaf (decide ((F_impl_abs (Rng.w .i64 (a0.lat1.val + a0.lat2.val))).val ≥ 10000000)))))) (.br (!(F_impl_isConic a0.kind)) (.br (a0.lat2.val != 0) (.leaf false) (.br (!(F_impl_isConic a0.kind)) (.leaf true) (.leaf (decide ((F_impl_abs (Rng.w .i64 (a0.lat1.val + a0.lat2.val))).val ≥ 10000000))))) (.br (!(F_impl_isConic a0.kind)) (.leaf true) (.leaf (decide ((F_impl_abs (Rng.w .i64 (a0.lat1.val + a0.lat2.val))).val ≥ 10000000)))))))) (.br (F_impl_isConic a0.kind) (.br (F_impl_isConic a0.kind) (.br (!(F_impl_isConic a0.kind)) (.br (a0.lat2.val != 0) (.leaf false) (.br (!(F_impl_isConic a0.kind)) (.leaf true) (.leaf (decide ((F_impl_abs (Rng.w .i64 (a0.lat1.val + a0.lat2.val))).val ≥ 10000000))))) (.br (!(F_impl_isConic a0.kind)) (.leaf true) (.leaf (decide ((F_impl_abs (Rng.w .i64 (a0.lat1.val + a0.lat2.val))).val ≥ 10000000))))) (.br (a0.kind.val == 1) (.br (!(F_impl_isConic a0.kind)) (.br (a0.lat2.val != 0) (.leaf false) (.br (!(F_impl_isConic a0.kind)) (.leaf true) (.leaf (decide ((F_impl_abs (Rng.w .i64 (a0.lat1.val + a0.lat2.val))).val ≥ 10000000))))) (.br (!(F_impl_isConic a0.kind)) (.leaf true) (.leaf (decide ((F_impl_abs (Rng.w .i64 (a0.lat1.val + a0.lat2.val))).val ≥ 10000000))))) (.br (!(a0.kind.val == 3)) (.br (a0.lat1.val != 0) (.leaf false) (.br (!(F_impl_isConic a0.kind)) (.br (a0.lat2.val != 0) (.leaf false) (.br (!(F_impl_isConic a0.kind)) (.leaf true) (.leaf (decide ((F_impl_abs (Rng.w .i64 (a0.lat1.val + a0.lat2.val))).val ≥ 10000000))))) (.br (!(F_impl_isConic a0.kind)) (.leaf true) (.leaf (decide ((F_impl_abs (Rng.w .i64 (a0.lat1.val + a0.lat2.val))).val ≥ 10000000)))))) (.br (!(F_impl_isConic a0.kind)) (.br (a0.lat2.val != 0) (.leaf false) (.br (!(F_impl_isConic a0.kind)) (.leaf true) (.leaf (decide ((F_impl_abs (Rng.w .i64 (a0.lat1.val + a0.lat2.val))).val ≥ 10000000))))) (.br (!(F_impl_isConic a0.kind)) (.leaf true) (.leaf (decide ((F_impl_abs (Rng.w .i64 (a0.lat1.val + a0.lat2.val))).val ≥ 10000000)))))))) (.br (F_impl_isConic a0.kind) (.br (!(a0.kind.val == 16)) (.br (a0.lat0.val != 0) (.leaf false) (.br (!(F_impl_isConic a0.kind)) (.br (a0.lat2.val != 0) (.leaf false) (.br (!(F_impl_isConic a0.kind)) (.leaf true) (.leaf (decide ((F_impl_abs (Rng.w .i64 (a0.lat1.val + a0.lat2.val))).val ≥ 10000000))))) (.br (!(F_impl_isConic a0.kind)) (.leaf true) (.leaf (decide ((F_impl_abs (Rng.w .i64 (a0.lat1.val + a0.lat2.val))).val ≥ 10000000)))))) (.br (!(F_impl_isConic a0.kind)) (.br (a0.lat2.val != 0) (.leaf false) (.br (!(F_impl_isConic a0.kind)) (.leaf true) (.leaf (decide ((F_impl_abs (Rng.w .i64 (a0.lat1.val + a0.lat2.val))).val ≥ 10000000))))) (.br (!(F_impl_isConic a0.kind)) (.leaf true) (.leaf (decide ((F_impl_abs (Rng.w .i64 (a0.lat1.val + a0.lat2.val))).val ≥ 10000000)))))) (.br (a0.kind.val == 1) (.br (!(a0.kind.val == 16)) (.br (a0.lat0.val != 0) (.leaf false) (.br (!(F_impl_isConic a0.kind)) (.br (a0.lat2.val != 0) (.leaf false) (.br (!(F_impl_isConic a0.kind)) (.leaf true) (.leaf (decide ((F_impl_abs (Rng.w .i64 (a0.lat1.val + a0.lat2.val))).val ≥ 10000000))))) (.br (!(F_impl_isConic a0.kind)) (.leaf true) (.leaf (decide ((F_impl_abs (Rng.w .i64 (a0.lat1.val + a0.lat2.val))).val ≥ 10000000)))))) (.br (!(F_impl_isConic a0.kind)) (.br (a0.lat2.val != 0) (.leaf false) (.br (!(F_impl_isConic a0.kind)) (.leaf true) (.leaf (decide ((F_impl_abs (Rng.w .i64 (a0.lat1.val + a0.lat2.val))).val ≥ 10000000))))) (.br (!(F_impl_isConic a0.kind)) (.leaf true) (.leaf (decide ((F_impl_abs (Rng.w .i64 (a0.lat1.val + a0.lat2.val))).val ≥ 10000000)))))) (.br (!(a0.kind.val == 16)) (.br (a0.lat0.val != 0) (.leaf false) (.br (!(a0.kind.val == 3)) (.br (a0.lat1.val != 0) (.leaf false) (.br (!(F_impl_isConic a0.kind)) (.br (a0.lat2.val != 0) (.leaf false) (.br (!(F_impl_isConic a0.kind)) (.leaf true) (.leaf (decide ((F_impl_abs (Rng.w .i64 (a0.lat1.val + a0.lat2.val))).val ≥ 10000000))))) (.br (!(F_impl_isConic a0.kind)) (.leaf true) (.leaf (decide ((F_impl_abs (Rng.w .i64 (a0.lat1.val + a0.lat2.val))).val ≥ 10000000)))))) (.br (!(F_impl_isConic a0.kind)) (.br (a0.lat2.val != 0) (.leaf false) (.br (!(F_impl_isConic a0.kind)) (.leaf true) (.leaf (decide ((F_impl_abs (Rng.w .i64 (a0.lat1.val + a0.lat2.val))).val ≥ 10000000))))) (.br (!(F_impl_isConic a0.kind)) (.leaf true) (.leaf (decide ((F_impl_abs (Rng.w .i64 (a0.lat1.val + a0.lat2.val))).val ≥ 10000000))))))) (.br (!(a0.kind.val == 3)) (.br (a0.lat1.val != 0) (.leaf false) (.br (!(F_impl_isConic a0.kind)) (.br (a0.lat2.val != 0) (.leaf false) (.br (!(F_impl_isConic a0.kind)) (.leaf true) (.leaf (decide ((F_impl_abs (Rng.w .i64 (a0.lat1.val + a0.lat2.val))).val ≥ 10000000))))) (.br (!(F_impl_isConic a0.kind)) (.leaf true) (.leaf (decide ((F_impl_abs (Rng.w .i64 (a0.lat1.val + a0.lat2.val))).val ≥ 10000000)))))) (.br (!(F_impl_isConic a0.kind)) (.br (a0.lat2.val != 0) (.leaf false) (.br (!(F_impl_isConic a0.kind)) (.leaf true) (.leaf (decide ((F_impl_abs (Rng.w .i64 (a0.lat1.val + a0.lat2.val))).val ≥ 10000000))))) (.br (!(F_impl_isConic a0.kind)) (.leaf true) (.leaf (decide ((F_impl_abs (Rng.w .i64 (a0.lat1.val + a0.lat2.val))).val ≥ 10000000))))))))))))))
theorem r_impl_ValidProjection (a0 : Proj) : Tb12.run B12 [enc a0] (Bool) = (t_impl_ValidProjection a0).opt := by kernel_rfl
noncomputable def F_impl_ValidProjection : Proj → Bool := fun a0 => (t_impl_ValidProjection a0).get
theorem u_impl_ValidProjection (a0 : Proj) : (t_impl_ValidProjection a0).opt = some (F_impl_ValidProjection a0) := Tr.tot_get (by kernel_rfl)
noncomputable def E_impl_ValidProjection : Ent Try.prog := .of1 Tb12 B12 (fun _ => true) F_impl_ValidProjection fun a0 _ => (r_impl_ValidProjection a0).trans (u_impl_ValidProjection a0)
noncomputable def B4 : Bod Try.prog := ⟨4, Try.f4, Try.f4.body.getD .skip, Try.func4, by kernel_rfl, by kernel_rfl, Loops.no _ _⟩
noncomputable def Tb4 : Tb Try.prog := { T := [Y4, Y33], mix := mix, Es := [E_spec_ValidProjection, E_laws_toProjection, E_impl_ValidProjection], Bs := [], d := 1 }
noncomputable def t_laws_FnExactValidProjection (a0 : Proj) : Tr (Bool) :=
  .br (!((F_impl_ValidProjection (F_laws_toProjection a0)) == (F_spec_ValidProjection (F_laws_toProjection a0)))) (.leaf false) (.leaf true)
theorem r_laws_FnExactValidProjection (a0 : Proj) : Tb4.run B4 [enc a0] (Bool) = (t_laws_FnExactValidProjection a0).opt := by kernel_rfl
noncomputable def F_laws_FnExactValidProjection : Proj → Bool := fun a0 => (t_laws_FnExactValidProjection a0).get
theorem u_laws_FnExactValidProjection (a0 : Proj) : (t_laws_FnExactValidProjection a0).opt = some (F_laws_FnExactValidProjection a0) := Tr.tot_get (by kernel_rfl)
noncomputable def E_laws_FnExactValidProjection : Ent Try.prog := .of1 Tb4 B4 (fun _ => true) F_laws_FnExactValidProjection fun a0 _ => (r_laws_FnExactValidProjection a0).trans (u_laws_FnExactValidProjection a0)
end
end Go.Proofs.Ytlhbapgmkkgfgaa.Ev
