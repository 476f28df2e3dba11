import Derived.Test.YtcfflflcbacapaaGreatEv9
import Derived.Test.YtcfflflcbacapaaGreatChecked
import Derived.KernelRfl
namespace Go.Proofs.YtcfflflcbacapaaGreat.Ev
open Go Go.RowKit
set_option maxRecDepth 100000
set_option linter.unusedVariables false
section
theorem mix : Tryz.prog.follows .mixedOrders = true := by kernel_rfl
noncomputable def Y2 : TyE Tryz.prog := ⟨2, 1, (.int .i64), [.i64 ⟨0, rfl⟩], false, by kernel_rfl, by kernel_rfl, by kernel_rfl, by kernel_rfl, by kernel_rfl, by kernel_rfl⟩
noncomputable def Y25 : TyE Tryz.prog := ⟨25, 2, (.struct [(0, 2, 1), (1, 2, 1)]), [.i64 ⟨0, rfl⟩, .i64 ⟨0, rfl⟩], true, by kernel_rfl, by kernel_rfl, by kernel_rfl, by kernel_rfl, by kernel_rfl, by kernel_rfl⟩
noncomputable def Y34 : TyE Tryz.prog := ⟨34, 2, (.struct [(0, 2, 1), (1, 2, 1)]), [.i64 ⟨0, rfl⟩, .i64 ⟨0, rfl⟩], true, by kernel_rfl, by kernel_rfl, by kernel_rfl, by kernel_rfl, by kernel_rfl, by kernel_rfl⟩
noncomputable def B17 : Bod Tryz.prog := ⟨17, Tryz.f17, Tryz.f17.body.getD .skip, Tryz.func17, by kernel_rfl, by kernel_rfl, Loops.no _ _⟩
noncomputable def Tb17 : Tb Tryz.prog := { T := [Y2, Y25, Y34], mix := mix, Es := [], Bs := [], d := 1 }
noncomputable def t_laws_toPoint (a0 : Point) : Tr (Point) :=
  .leaf a0
theorem r_laws_toPoint (a0 : Point) : Tb17.run B17 [enc a0] (Point) = (t_laws_toPoint a0).opt := by kernel_rfl
noncomputable def F_laws_toPoint : Point → Point := fun a0 => (t_laws_toPoint a0).get
theorem u_laws_toPoint (a0 : Point) : (t_laws_toPoint a0).opt = some (F_laws_toPoint a0) := Tr.tot_get (by kernel_rfl)
noncomputable def E_laws_toPoint : Ent Tryz.prog := .of1 Tb17 B17 (fun _ => true) F_laws_toPoint fun a0 _ => (r_laws_toPoint a0).trans (u_laws_toPoint a0)
noncomputable def Y55 : TyE Tryz.prog := ⟨55, 3, (.struct [(0, 25, 2), (2, 2, 1)]), [.i64 ⟨0, rfl⟩, .i64 ⟨0, rfl⟩, .i64 ⟨0, rfl⟩], false, by kernel_rfl, by kernel_rfl, by kernel_rfl, by kernel_rfl, by kernel_rfl, by kernel_rfl⟩
noncomputable def Y58 : TyE Tryz.prog := ⟨58, 3, (.struct [(0, 34, 2), (2, 2, 1)]), [.i64 ⟨0, rfl⟩, .i64 ⟨0, rfl⟩, .i64 ⟨0, rfl⟩], false, by kernel_rfl, by kernel_rfl, by kernel_rfl, by kernel_rfl, by kernel_rfl, by kernel_rfl⟩
noncomputable def B31 : Bod Tryz.prog := ⟨31, Tryz.f31, Tryz.f31.body.getD .skip, Tryz.func31, by kernel_rfl, by kernel_rfl, Loops.no _ _⟩
noncomputable def Tb31 : Tb Tryz.prog := { T := [Y2, Y25, Y34, Y55, Y58], mix := mix, Es := [E_laws_toPoint], Bs := [], d := 1 }
noncomputable def t_laws_toPlace (a0 : Place) : Tr (Place) :=
  .leaf ⟨(F_laws_toPoint a0.pt), a0.h⟩
theorem r_laws_toPlace (a0 : Place) : Tb31.run B31 [enc a0] (Place) = (t_laws_toPlace a0).opt := by kernel_rfl
noncomputable def F_laws_toPlace : Place → Place := fun a0 => (t_laws_toPlace a0).get
theorem u_laws_toPlace (a0 : Place) : (t_laws_toPlace a0).opt = some (F_laws_toPlace a0) := Tr.tot_get (by kernel_rfl)
noncomputable def E_laws_toPlace : Ent Tryz.prog := .of1 Tb31 B31 (fun _ => true) F_laws_toPlace fun a0 _ => (r_laws_toPlace a0).trans (u_laws_toPlace a0)
noncomputable def Y23 : TyE Tryz.prog := ⟨23, 5, (.struct [(0, 2, 1), (1, 2, 1), (2, 2, 1), (3, 2, 1), (4, 2, 1)]), [.i64 ⟨0, rfl⟩, .i64 ⟨0, rfl⟩, .i64 ⟨0, rfl⟩, .i64 ⟨0, rfl⟩, .i64 ⟨0, rfl⟩], true, by kernel_rfl, by kernel_rfl, by kernel_rfl, by kernel_rfl, by kernel_rfl, by kernel_rfl⟩
noncomputable def Y32 : TyE Tryz.prog := ⟨32, 5, (.struct [(0, 2, 1), (1, 2, 1), (2, 2, 1), (3, 2, 1), (4, 2, 1)]), [.i64 ⟨0, rfl⟩, .i64 ⟨0, rfl⟩, .i64 ⟨0, rfl⟩, .i64 ⟨0, rfl⟩, .i64 ⟨0, rfl⟩], true, by kernel_rfl, by kernel_rfl, by kernel_rfl, by kernel_rfl, by kernel_rfl, by kernel_rfl⟩
noncomputable def B16 : Bod Tryz.prog := ⟨16, Tryz.f16, Tryz.f16.body.getD .skip, Tryz.func16, by kernel_rfl, by kernel_rfl, Loops.no _ _⟩
noncomputable def Tb16 : Tb Tryz.prog := { T := [Y2, Y23, Y32], mix := mix, Es := [], Bs := [], d := 1 }
noncomputable def t_laws_toProjection (a0 : Proj) : Tr (Proj) :=
  .leaf a0
theorem r_laws_toProjection (a0 : Proj) : Tb16.run B16 [enc a0] (Proj) = (t_laws_toProjection a0).opt := by kernel_rfl
noncomputable def F_laws_toProjection : Proj → Proj := fun a0 => (t_laws_toProjection a0).get
theorem u_laws_toProjection (a0 : Proj) : (t_laws_toProjection a0).opt = some (F_laws_toProjection a0) := Tr.tot_get (by kernel_rfl)
noncomputable def E_laws_toProjection : Ent Tryz.prog := .of1 Tb16 B16 (fun _ => true) F_laws_toProjection fun a0 _ => (r_laws_toProjection a0).trans (u_laws_toProjection a0)
noncomputable def B144 : Bod Tryz.prog := ⟨144, Tryz.f144, Tryz.f144.body.getD .skip, Tryz.func144, by kernel_rfl, by kernel_rfl, Loops.no _ _⟩
noncomputable def Tb144 : Tb Tryz.prog := { T := [], mix := mix, Es := [], Bs := [], d := 1 }
noncomputable def t_spec_l00In (a0 : I64) (a1 : I64) (a2 : I64) : Tr (Bool) :=
  .br (decide (a0.val ≥ a1.val)) (.leaf (decide (a0.val ≤ a2.val))) (.leaf false)
theorem r_spec_l00In (a0 : I64) (a1 : I64) (a2 : I64) : Tb144.run B144 [enc a0, enc a1, enc a2] (Bool) = (t_spec_l00In a0 a1 a2).opt := by kernel_rfl
noncomputable def F_spec_l00In : I64 → I64 → I64 → Bool := fun a0 a1 a2 => (t_spec_l00In a0 a1 a2).get
theorem u_spec_l00In (a0 : I64) (a1 : I64) (a2 : I64) : (t_spec_l00In a0 a1 a2).opt = some (F_spec_l00In a0 a1 a2) := Tr.tot_get (by kernel_rfl)
noncomputable def E_spec_l00In : Ent Tryz.prog := .of3 Tb144 B144 (fun _ _ _ => true) F_spec_l00In fun a0 a1 a2 _ => (r_spec_l00In a0 a1 a2).trans (u_spec_l00In a0 a1 a2)
noncomputable def B48 : Bod Tryz.prog := ⟨48, Tryz.f48, Tryz.f48.body.getD .skip, Tryz.func48, by kernel_rfl, by kernel_rfl, Loops.no _ _⟩
noncomputable def Tb48 : Tb Tryz.prog := { T := [Y2, Y34], mix := mix, Es := [E_spec_l00In], Bs := [], d := 1 }
noncomputable def t_spec_l11Ok (a0 : Point) : Tr (Bool) :=
  .br (F_spec_l00In a0.lat ⟨(-900000000), rfl⟩ ⟨900000000, rfl⟩) (.leaf (F_spec_l00In a0.lon ⟨(-1799999999), rfl⟩ ⟨1800000000, rfl⟩)) (.leaf false)
theorem r_spec_l11Ok (a0 : Point) : Tb48.run B48 [enc a0] (Bool) = (t_spec_l11Ok a0).opt := by kernel_rfl
noncomputable def F_spec_l11Ok : Point → Bool := fun a0 => (t_spec_l11Ok a0).get
theorem u_spec_l11Ok (a0 : Point) : (t_spec_l11Ok a0).opt = some (F_spec_l11Ok a0) := Tr.tot_get (by kernel_rfl)
noncomputable def E_spec_l11Ok : Ent Tryz.prog := .of1 Tb48 B48 (fun _ => true) F_spec_l11Ok fun a0 _ => (r_spec_l11Ok a0).trans (u_spec_l11Ok a0)
noncomputable def B146 : Bod Tryz.prog := ⟨146, Tryz.f146, Tryz.f146.body.getD .skip, Tryz.func146, by kernel_rfl, by kernel_rfl, Loops.no _ _⟩
noncomputable def Tb146 : Tb Tryz.prog := { T := [], mix := mix, Es := [], Bs := [], d := 1 }
noncomputable def t_impl_within (a0 : I64) (a1 : I64) (a2 : I64) : Tr (Bool) :=
  .br (decide (a0.val ≥ a1.val)) (.leaf (decide (a0.val ≤ a2.val))) (.leaf false)
theorem r_impl_within (a0 : I64) (a1 : I64) (a2 : I64) : Tb146.run B146 [enc a0, enc a1, enc a2] (Bool) = (t_impl_within a0 a1 a2).opt := by kernel_rfl
noncomputable def F_impl_within : I64 → I64 → I64 → Bool := fun a0 a1 a2 => (t_impl_within a0 a1 a2).get
theorem u_impl_within (a0 : I64) (a1 : I64) (a2 : I64) : (t_impl_within a0 a1 a2).opt = some (F_impl_within a0 a1 a2) := Tr.tot_get (by kernel_rfl)
noncomputable def E_impl_within : Ent Tryz.prog := .of3 Tb146 B146 (fun _ _ _ => true) F_impl_within fun a0 a1 a2 _ => (r_impl_within a0 a1 a2).trans (u_impl_within a0 a1 a2)
noncomputable def B51 : Bod Tryz.prog := ⟨51, Tryz.f51, Tryz.f51.body.getD .skip, Tryz.func51, by kernel_rfl, by kernel_rfl, Loops.no _ _⟩
noncomputable def Tb51 : Tb Tryz.prog := { T := [Y2, Y34], mix := mix, Es := [E_impl_within], Bs := [], d := 1 }
noncomputable def t_impl_ValidPoint (a0 : Point) : Tr (Bool) :=
  .br (F_impl_within a0.lat ⟨(-900000000), rfl⟩ ⟨900000000, rfl⟩) (.br (decide (a0.lon.val > (-1800000000))) (.leaf (decide (a0.lon.val ≤ 1800000000))) (.leaf false)) (.leaf false)
theorem r_impl_ValidPoint (a0 : Point) : Tb51.run B51 [enc a0] (Bool) = (t_impl_ValidPoint a0).opt := by kernel_rfl
noncomputable def F_impl_ValidPoint : Point → Bool := fun a0 => (t_impl_ValidPoint a0).get
theorem u_impl_ValidPoint (a0 : Point) : (t_impl_ValidPoint a0).opt = some (F_impl_ValidPoint a0) := Tr.tot_get (by kernel_rfl)
noncomputable def E_impl_ValidPoint : Ent Tryz.prog := .of1 Tb51 B51 (fun _ => true) F_impl_ValidPoint fun a0 _ => (r_impl_ValidPoint a0).trans (u_impl_ValidPoint a0)
noncomputable def B196 : Bod Tryz.prog := ⟨196, Tryz.f196, Tryz.f196.body.getD .skip, Tryz.func196, by kernel_rfl, by kernel_rfl, Loops.no _ _⟩
noncomputable def Tb196 : Tb Tryz.prog := { T := [], mix := mix, Es := [E_impl_within], Bs := [], d := 1 }
noncomputable def t_impl_isHeight (a0 : I64) : Tr (Bool) :=
  .leaf (F_impl_within a0 ⟨(-20000000), rfl⟩ ⟨20000000000, rfl⟩)
theorem r_impl_isHeight (a0 : I64) : Tb196.run B196 [enc a0] (Bool) = (t_impl_isHeight a0).opt := by kernel_rfl
noncomputable def F_impl_isHeight : I64 → Bool := fun a0 => (t_impl_isHeight a0).get
theorem u_impl_isHeight (a0 : I64) : (t_impl_isHeight a0).opt = some (F_impl_isHeight a0) := Tr.tot_get (by kernel_rfl)
noncomputable def E_impl_isHeight : Ent Tryz.prog := .of1 Tb196 B196 (fun _ => true) F_impl_isHeight fun a0 _ => (r_impl_isHeight a0).trans (u_impl_isHeight a0)
noncomputable def B98 : Bod Tryz.prog := ⟨98, Tryz.f98, Tryz.f98.body.getD .skip, Tryz.func98, by kernel_rfl, by kernel_rfl, Loops.no _ _⟩
noncomputable def Tb98 : Tb Tryz.prog := { T := [Y2, Y34, Y58], mix := mix, Es := [E_impl_ValidPoint, E_impl_isHeight], Bs := [], d := 1 }
noncomputable def t_impl_ValidPlace (a0 : Place) : Tr (Bool) :=
  .br (F_impl_ValidPoint a0.pt) (.leaf (F_impl_isHeight a0.h)) (.leaf false)
theorem r_impl_ValidPlace (a0 : Place) : Tb98.run B98 [enc a0] (Bool) = (t_impl_ValidPlace a0).opt := by kernel_rfl
noncomputable def F_impl_ValidPlace : Place → Bool := fun a0 => (t_impl_ValidPlace a0).get
theorem u_impl_ValidPlace (a0 : Place) : (t_impl_ValidPlace a0).opt = some (F_impl_ValidPlace a0) := Tr.tot_get (by kernel_rfl)
noncomputable def E_impl_ValidPlace : Ent Tryz.prog := .of1 Tb98 B98 (fun _ => true) F_impl_ValidPlace fun a0 _ => (r_impl_ValidPlace a0).trans (u_impl_ValidPlace a0)
noncomputable def B175 : Bod Tryz.prog := ⟨175, Tryz.f175, Tryz.f175.body.getD .skip, Tryz.func175, by kernel_rfl, by kernel_rfl, Loops.no _ _⟩
noncomputable def Tb175 : Tb Tryz.prog := { T := [], mix := mix, Es := [E_impl_within], Bs := [], d := 1 }
noncomputable def t_impl_isStandard (a0 : I64) : Tr (Bool) :=
  .leaf (F_impl_within a0 ⟨(-890000000), rfl⟩ ⟨890000000, rfl⟩)
theorem r_impl_isStandard (a0 : I64) : Tb175.run B175 [enc a0] (Bool) = (t_impl_isStandard a0).opt := by kernel_rfl
noncomputable def F_impl_isStandard : I64 → Bool := fun a0 => (t_impl_isStandard a0).get
theorem u_impl_isStandard (a0 : I64) : (t_impl_isStandard a0).opt = some (F_impl_isStandard a0) := Tr.tot_get (by kernel_rfl)
noncomputable def E_impl_isStandard : Ent Tryz.prog := .of1 Tb175 B175 (fun _ => true) F_impl_isStandard fun a0 _ => (r_impl_isStandard a0).trans (u_impl_isStandard a0)
noncomputable def B145 : Bod Tryz.prog := ⟨145, Tryz.f145, Tryz.f145.body.getD .skip, Tryz.func145, by kernel_rfl, by kernel_rfl, Loops.no _ _⟩
noncomputable def Tb145 : Tb Tryz.prog := { T := [], mix := mix, Es := [E_impl_within], Bs := [], d := 1 }
noncomputable def t_impl_isAzimuthal (a0 : I64) : Tr (Bool) :=
  .leaf (F_impl_within a0 ⟨5, rfl⟩ ⟨9, rfl⟩)
theorem r_impl_isAzimuthal (a0 : I64) : Tb145.run B145 [enc a0] (Bool) = (t_impl_isAzimuthal a0).opt := by kernel_rfl
noncomputable def F_impl_isAzimuthal : I64 → Bool := fun a0 => (t_impl_isAzimuthal a0).get
theorem u_impl_isAzimuthal (a0 : I64) : (t_impl_isAzimuthal a0).opt = some (F_impl_isAzimuthal a0) := Tr.tot_get (by kernel_rfl)
noncomputable def E_impl_isAzimuthal : Ent Tryz.prog := .of1 Tb145 B145 (fun _ => true) F_impl_isAzimuthal fun a0 _ => (r_impl_isAzimuthal a0).trans (u_impl_isAzimuthal a0)
noncomputable def B176 : Bod Tryz.prog := ⟨176, Tryz.f176, Tryz.f176.body.getD .skip, Tryz.func176, by kernel_rfl, by kernel_rfl, Loops.no _ _⟩
noncomputable def Tb176 : Tb Tryz.prog := { T := [], mix := mix, Es := [E_impl_within], Bs := [], d := 1 }
noncomputable def t_impl_isConic (a0 : I64) : Tr (Bool) :=
  .leaf (F_impl_within a0 ⟨10, rfl⟩ ⟨12, rfl⟩)
theorem r_impl_isConic (a0 : I64) : Tb176.run B176 [enc a0] (Bool) = (t_impl_isConic a0).opt := by kernel_rfl
noncomputable def F_impl_isConic : I64 → Bool := fun a0 => (t_impl_isConic a0).get
theorem u_impl_isConic (a0 : I64) : (t_impl_isConic a0).opt = some (F_impl_isConic a0) := Tr.tot_get (by kernel_rfl)
noncomputable def E_impl_isConic : Ent Tryz.prog := .of1 Tb176 B176 (fun _ => true) F_impl_isConic fun a0 _ => (r_impl_isConic a0).trans (u_impl_isConic a0)
noncomputable def B177 : Bod Tryz.prog := ⟨177, Tryz.f177, Tryz.f177.body.getD .skip, Tryz.func177, by kernel_rfl, by kernel_rfl, Loops.no _ _⟩
noncomputable def Tb177 : Tb Tryz.prog := { T := [], mix := mix, Es := [], Bs := [], d := 1 }
noncomputable def t_impl_abs (a0 : I64) : Tr (I64) :=
  .leaf (mx a0 (Rng.w .i64 (0 - a0.val)))
theorem r_impl_abs (a0 : I64) : Tb177.run B177 [enc a0] (I64) = (t_impl_abs a0).opt := by kernel_rfl
noncomputable def F_impl_abs : I64 → I64 := fun a0 => (t_impl_abs a0).get
theorem u_impl_abs (a0 : I64) : (t_impl_abs a0).opt = some (F_impl_abs a0) := Tr.tot_get (by kernel_rfl)
noncomputable def E_impl_abs : Ent Tryz.prog := .of1 Tb177 B177 (fun _ => true) F_impl_abs fun a0 _ => (r_impl_abs a0).trans (u_impl_abs a0)
noncomputable def B75 : Bod Tryz.prog := ⟨75, Tryz.f75, Tryz.f75.body.getD .skip, Tryz.func75, by kernel_rfl, by kernel_rfl, Loops.no _ _⟩
noncomputable def Tb75 : Tb Tryz.prog := { T := [Y2, Y32, Y34], mix := mix, Es := [E_impl_ValidPoint, E_impl_isAzimuthal, E_impl_within, E_impl_isStandard, E_impl_isConic, E_impl_abs], Bs := [], d := 1 }
noncomputable def t_impl_ValidProjection (a0 : Proj) : Tr (Bool) :=
  .br (!(F_impl_within a0.kind ⟨1, rfl⟩ ⟨16, rfl⟩)) (.leaf false) (.br (!(F_impl_ValidPoint ⟨a0.lat0, a0.lon0⟩)) (.leaf false) (.br (!(F_impl_isStandard a0.lat1)) (.leaf false) (.br (!(F_impl_isStandard a0.lat2)) (.leaf false) (.br (F_impl_isAzimuthal a0.kind) (.br (F_impl_isConic a0.kind) (.br (!(F_impl_isConic a0.kind)) (.br (a0.lat2.val != 0) (.leaf false) (.br (!(F_impl_isConic a0.kind)) (.leaf true) (.leaf (decide ((F_impl_abs (Rng.w .i64 (a0.lat1.val + a0.lat2.val))).val ≥ 10000000))))) (.br (!(F_impl_isConic a0.kind)) (.leaf true) (.leaf (decide ((F_impl_abs (Rng.w .i64 (a0.lat1.val + a0.lat2.val))).val ≥ 10000000))))) (.br (a0.kind.val == 1) (.br (!(F_impl_isConic a0.kind)) (.br (a0.lat2.val != 0) (.leaf false) (.br (!(F_impl_isConic a0.kind)) (.leaf true) (.leaf (decide ((F_impl_abs (Rng.w .i64 (a0.lat1.val + a0.lat2.val))).val ≥ 10000000))))) (.br (!(F_impl_isConic a0.kind)) (.leaf true) (.leaf (decide ((F_impl_abs (Rng.w .i64 (a0.lat1.val + a0.lat2.val))).val ≥ 10000000))))) (.br (!(a0.kind.val == 3)) (.br (a0.lat1.val != 0) (.leaf false) (.br (!(F_impl_isConic a0.kind)) (.br (a0.lat2.val != 0) (.leaf false) (.br (!(F_impl_isConic a0.kind)) (.leaf true) (.leaf (decide ((F_impl_abs (Rng.w .i64 (a0.lat1.val + a0.lat2.val))).val ≥ 10000000))))) (.br (!(F_impl_isConic a0.kind)) (.leaf true) (.leaf (decide ((F_impl_abs (Rng.w .i64 (a0.lat1.val + a0.lat2.val))).val ≥ 10000000)))))) (.br (!(F_impl_isConic a0.kind)) (.br (a0.lat2.val != 0) (.leaf false) (.br (!(F_impl_isConic a0.kind)) (.leaf true) (.leaf (decide ((F_impl_abs (Rng.w .i64 (a0.lat1.val + a0.lat2.val))).val ≥ 10000000))))) (.br (!(F_impl_isConic a0.kind)) (.leaf true) (.leaf (decide ((F_impl_abs (Rng.w .i64 (a0.lat1.val + a0.lat2.val))).val ≥ 10000000)))))))) (.br (F_impl_isConic a0.kind) (.br (F_impl_isConic a0.kind) (.br (!(F_impl_isConic a0.kind)) (.br (a0.lat2.val != 0) (.leaf false) (.br (!(F_impl_isConic a0.kind)) (.leaf true) (.leaf (decide ((F_impl_abs (Rng.w .i64 (a0.lat1.val + a0.lat2.val))).val ≥ 10000000))))) (.br (!(F_impl_isConic a0.kind)) (.leaf true) (.leaf (decide ((F_impl_abs (Rng.w .i64 (a0.lat1.val + a0.lat2.val))).val ≥ 10000000))))) (.br (a0.kind.val == 1) (.br (!(F_impl_isConic a0.kind)) (.br (a0.lat2.val != 0) (.leaf false) (.br (!(F_impl_isConic a0.kind)) (.leaf true) (.leaf (decide ((F_impl_abs (Rng.w .i64 (a0.lat1.val + a0.lat2.val))).val ≥ 10000000))))) (.br (!(F_impl_isConic a0.kind)) (.leaf true) (.leaf (decide ((F_impl_abs (Rng.w .i64 (a0.lat1.val + a0.lat2.val))).val ≥ 10000000))))) (.br (!(a0.kind.val == 3)) (.br (a0.lat1.val != 0) (.leaf false) (.br (!(F_impl_isConic a0.kind)) (.br (a0.lat2.val != 0) (.leaf false) (.br (!(F_impl_isConic a0.kind)) (.leaf true) (.leaf (decide ((F_impl_abs (Rng.w .i64 (a0.lat1.val + a0.lat2.val))).val ≥ 10000000))))) (.br (!(F_impl_isConic a0.kind)) (.leaf true) (.leaf (decide ((F_impl_abs (Rng.w .i64 (a0.lat1.val + a0.lat2.val))).val ≥ 10000000)))))) (.br (!(F_impl_isConic a0.kind)) (.br (a0.lat2.val != 0) (.leaf false) (.br (!(F_impl_isConic a0.kind)) (.leaf true) (.leaf (decide ((F_impl_abs (Rng.w .i64 (a0.lat1.val + a0.lat2.val))).val ≥ 10000000))))) (.br (!(F_impl_isConic a0.kind)) (.leaf true) (.leaf (decide ((F_impl_abs (Rng.w .i64 (a0.lat1.val + a0.lat2.val))).val ≥ 10000000)))))))) (.br (F_impl_isConic a0.kind) (.br (!(a0.kind.val == 16)) (.br (a0.lat0.val != 0) (.leaf false) (.br (!(F_impl_isConic a0.kind)) (.br (a0.lat2.val != 0) (.leaf false) (.br (!(F_impl_isConic a0.kind)) (.leaf true) (.leaf (decide ((F_impl_abs (Rng.w .i64 (a0.lat1.val + a0.lat2.val))).val ≥ 10000000))))) (.br (!(F_impl_isConic a0.kind)) (.leaf true) (.leaf (decide ((F_impl_abs (Rng.w .i64 (a0.lat1.val + a0.lat2.val))).val ≥ 10000000)))))) (.br (!(F_impl_isConic a0.kind)) (.br (a0.lat2.val != 0) (.leaf false) (.br (!(F_impl_isConic a0.kind)) (.leaf true) (.leaf (decide ((F_impl_abs (Rng.w .i64 (a0.lat1.val + a0.lat2.val))).val ≥ 10000000))))) (.br (!(F_impl_isConic a0.kind)) (.leaf true) (.leaf (decide ((F_impl_abs (Rng.w .i64 (a0.lat1.val + a0.lat2.val))).val ≥ 10000000)))))) (.br (a0.kind.val == 1) (.br (!(a0.kind.val == 16)) (.br (a0.lat0.val != 0) (.leaf false) (.br (!(F_impl_isConic a0.kind)) (.br (a0.lat2.val != 0) (.leaf false) (.br (!(F_impl_isConic a0.kind)) (.leaf true) (.leaf (decide ((F_impl_abs (Rng.w .i64 (a0.lat1.val + a0.lat2.val))).val ≥ 10000000))))) (.br (!(F_impl_isConic a0.kind)) (.leaf true) (.leaf (decide ((F_impl_abs (Rng.w .i64 (a0.lat1.val + a0.lat2.val))).val ≥ 10000000)))))) (.br (!(F_impl_isConic a0.kind)) (.br (a0.lat2.val != 0) (.leaf false) (.br (!(F_impl_isConic a0.kind)) (.leaf true) (.leaf (decide ((F_impl_abs (Rng.w .i64 (a0.lat1.val + a0.lat2.val))).val ≥ 10000000))))) (.br (!(F_impl_isConic a0.kind)) (.leaf true) (.leaf (decide ((F_impl_abs (Rng.w .i64 (a0.lat1.val + a0.lat2.val))).val ≥ 10000000)))))) (.br (!(a0.kind.val == 16)) (.br (a0.lat0.val != 0) (.leaf false) (.br (!(a0.kind.val == 3)) (.br (a0.lat1.val != 0) (.leaf false) (.br (!(F_impl_isConic a0.kind)) (.br (a0.lat2.val != 0) (.leaf false) (.br (!(F_impl_isConic a0.kind)) (.leaf true) (.leaf (decide ((F_impl_abs (Rng.w .i64 (a0.lat1.val + a0.lat2.val))).val ≥ 10000000))))) (.br (!(F_impl_isConic a0.kind)) (.leaf true) (.leaf (decide ((F_impl_abs (Rng.w .i64 (a0.lat1.val + a0.lat2.val))).val ≥ 10000000)))))) (.br (!(F_impl_isConic a0.kind)) (.br (a0.lat2.val != 0) (.leaf false) (.br (!(F_impl_isConic a0.kind)) (.leaf true) (.leaf (decide ((F_impl_abs (Rng.w .i64 (a0.lat1.val + a0.lat2.val))).val ≥ 10000000))))) (.br (!(F_impl_isConic a0.kind)) (.leaf true) (.leaf (decide ((F_impl_abs (Rng.w .i64 (a0.lat1.val + a0.lat2.val))).val ≥ 10000000))))))) (.br (!(a0.kind.val == 3)) (.br (a0.lat1.val != 0) (.leaf false) (.br (!(F_impl_isConic a0.kind)) (.br (a0.lat2.val != 0) (.leaf false) (.br (!(F_impl_isConic a0.kind)) (.leaf true) (.leaf (decide ((F_impl_abs (Rng.w .i64 (a0.lat1.val + a0.lat2.val))).val ≥ 10000000))))) (.br (!(F_impl_isConic a0.kind)) (.leaf true) (.leaf (decide ((F_impl_abs (Rng.w .i64 (a0.lat1.val + a0.lat2.val))).val ≥ 10000000)))))) (.br (!(F_impl_isConic a0.kind)) (.br (a0.lat2.val != 0) (.leaf false) (.br (!(F_impl_isConic a0.kind)) (.leaf true) (.leaf (decide ((F_impl_abs (Rng.w .i64 (a0.lat1.val + a0.lat2.val))).val ≥ 10000000))))) (.br (!(F_impl_isConic a0.kind)) (.leaf true) (.leaf (decide ((F_impl_abs (Rng.w .i64 (a0.lat1.val + a0.lat2.val))).val ≥ 10000000))))))))))))))
theorem r_impl_ValidProjection (a0 : Proj) : Tb75.run B75 [enc a0] (Bool) = (t_impl_ValidProjection a0).opt := by kernel_rfl
noncomputable def F_impl_ValidProjection : Proj → Bool := fun a0 => (t_impl_ValidProjection a0).get
theorem u_impl_ValidProjection (a0 : Proj) : (t_impl_ValidProjection a0).opt = some (F_impl_ValidProjection a0) := Tr.tot_get (by kernel_rfl)
noncomputable def E_impl_ValidProjection : Ent Tryz.prog := .of1 Tb75 B75 (fun _ => true) F_impl_ValidProjection fun a0 _ => (r_impl_ValidProjection a0).trans (u_impl_ValidProjection a0)
noncomputable def B238 : Bod Tryz.prog := ⟨238, Tryz.f238, Tryz.f238.body.getD .skip, Tryz.func238, by kernel_rfl, by kernel_rfl, Loops.no _ _⟩
noncomputable def Tb238 : Tb Tryz.prog := { T := [], mix := mix, Es := [E_spec_l00In], Bs := [], d := 1 }
noncomputable def t_spec_l17Standard (a0 : I64) : Tr (Bool) :=
  .leaf (F_spec_l00In a0 ⟨(-890000000), rfl⟩ ⟨890000000, rfl⟩)
theorem r_spec_l17Standard (a0 : I64) : Tb238.run B238 [enc a0] (Bool) = (t_spec_l17Standard a0).opt := by kernel_rfl
noncomputable def F_spec_l17Standard : I64 → Bool := fun a0 => (t_spec_l17Standard a0).get
theorem u_spec_l17Standard (a0 : I64) : (t_spec_l17Standard a0).opt = some (F_spec_l17Standard a0) := Tr.tot_get (by kernel_rfl)
noncomputable def E_spec_l17Standard : Ent Tryz.prog := .of1 Tb238 B238 (fun _ => true) F_spec_l17Standard fun a0 _ => (r_spec_l17Standard a0).trans (u_spec_l17Standard a0)
noncomputable def B166 : Bod Tryz.prog := ⟨166, Tryz.f166, Tryz.f166.body.getD .skip, Tryz.func166, by kernel_rfl, by kernel_rfl, Loops.no _ _⟩
noncomputable def Tb166 : Tb Tryz.prog := { T := [Y2, Y32, Y34], mix := mix, Es := [E_spec_l11Ok, E_spec_l17Standard], Bs := [], d := 1 }
noncomputable def t_spec_l17Ok (a0 : Proj) : Tr (Bool) :=
  .br (!(F_spec_l11Ok ⟨a0.lat0, a0.lon0⟩)) (.leaf false) (.br (!(F_spec_l17Standard a0.lat1)) (.leaf false) (.br (!(F_spec_l17Standard a0.lat2)) (.leaf false) (.br (a0.kind.val == 1) (.br (a0.lat0.val == 0) (.leaf (a0.lat2.val == 0)) (.leaf false)) (.br (a0.kind.val == 3) (.br (a0.lat0.val == 0) (.leaf (a0.lat2.val == 0)) (.leaf false)) (.br (a0.kind.val == 2) (.br (a0.lat0.val == 0) (.br (a0.lat1.val == 0) (.leaf (a0.lat2.val == 0)) (.leaf false)) (.leaf false)) (.br (a0.kind.val == 4) (.br (a0.lat0.val == 0) (.br (a0.lat1.val == 0) (.leaf (a0.lat2.val == 0)) (.leaf false)) (.leaf false)) (.br (a0.kind.val == 13) (.br (a0.lat0.val == 0) (.br (a0.lat1.val == 0) (.leaf (a0.lat2.val == 0)) (.leaf false)) (.leaf false)) (.br (a0.kind.val == 14) (.br (a0.lat0.val == 0) (.br (a0.lat1.val == 0) (.leaf (a0.lat2.val == 0)) (.leaf false)) (.leaf false)) (.br (a0.kind.val == 15) (.br (a0.lat0.val == 0) (.br (a0.lat1.val == 0) (.leaf (a0.lat2.val == 0)) (.leaf false)) (.leaf false)) (.br (a0.kind.val == 5) (.br (a0.lat1.val == 0) (.leaf (a0.lat2.val == 0)) (.leaf false)) (.br (a0.kind.val == 6) (.br (a0.lat1.val == 0) (.leaf (a0.lat2.val == 0)) (.leaf false)) (.br (a0.kind.val == 7) (.br (a0.lat1.val == 0) (.leaf (a0.lat2.val == 0)) (.leaf false)) (.br (a0.kind.val == 8) (.br (a0.lat1.val == 0) (.leaf (a0.lat2.val == 0)) (.leaf false)) (.br (a0.kind.val == 9) (.br (a0.lat1.val == 0) (.leaf (a0.lat2.val == 0)) (.leaf false)) (.br (a0.kind.val == 16) (.br (a0.lat1.val == 0) (.leaf (a0.lat2.val == 0)) (.leaf false)) (.br (a0.kind.val == 10) (let c4 := (Rng.w .i64 (a0.lat1.val + a0.lat2.val)); .br (decide (c4.val ≥ 10000000)) (.leaf true) (.leaf (decide (c4.val ≤ (-10000000))))) (.br (a0.kind.val == 11) (let c7 := (Rng.w .i64 (a0.lat1.val + a0.lat2.val)); .br (decide (c7.val ≥ 10000000)) (.leaf true) (.leaf (decide (c7.val ≤ (-10000000))))) (.br (a0.kind.val == 12) (let c10 := (Rng.w .i64 (a0.lat1.val + a0.lat2.val)); .br (decide (c10.val ≥ 10000000)) (.leaf true) (.leaf (decide (c10.val ≤ (-10000000))))) (.leaf false)))))))))))))))))))
theorem r_spec_l17Ok (a0 : Proj) : Tb166.run B166 [enc a0] (Bool) = (t_spec_l17Ok a0).opt := by kernel_rfl
noncomputable def F_spec_l17Ok : Proj → Bool := fun a0 => (t_spec_l17Ok a0).get
theorem u_spec_l17Ok (a0 : Proj) : (t_spec_l17Ok a0).opt = some (F_spec_l17Ok a0) := Tr.tot_get (by kernel_rfl)
noncomputable def E_spec_l17Ok : Ent Tryz.prog := .of1 Tb166 B166 (fun _ => true) F_spec_l17Ok fun a0 _ => (r_spec_l17Ok a0).trans (u_spec_l17Ok a0)
noncomputable def B143 : Bod Tryz.prog := ⟨143, Tryz.f143, Tryz.f143.body.getD .skip, Tryz.func143, by kernel_rfl, by kernel_rfl, Loops.no _ _⟩
noncomputable def Tb143 : Tb Tryz.prog := { T := [Y32], mix := mix, Es := [E_spec_l17Ok], Bs := [], d := 1 }
noncomputable def t_spec_ValidProjection (a0 : Proj) : Tr (Bool) :=
  .leaf (F_spec_l17Ok a0)
theorem r_spec_ValidProjection (a0 : Proj) : Tb143.run B143 [enc a0] (Bool) = (t_spec_ValidProjection a0).opt := by kernel_rfl
noncomputable def F_spec_ValidProjection : Proj → Bool := fun a0 => (t_spec_ValidProjection a0).get
theorem u_spec_ValidProjection (a0 : Proj) : (t_spec_ValidProjection a0).opt = some (F_spec_ValidProjection a0) := Tr.tot_get (by kernel_rfl)
noncomputable def E_spec_ValidProjection : Ent Tryz.prog := .of1 Tb143 B143 (fun _ => true) F_spec_ValidProjection fun a0 _ => (r_spec_ValidProjection a0).trans (u_spec_ValidProjection a0)
end
end Go.Proofs.YtcfflflcbacapaaGreat.Ev
