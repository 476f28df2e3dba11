import Derived.Test.YtecfhpgpojgjkaaGreatEvC
import Derived.Test.YtecfhpgpojgjkaaGreatChecked
import Derived.KernelRfl
namespace Go.Proofs.YtecfhpgpojgjkaaGreat.Ev
open Go Go.RowKit
set_option maxRecDepth 100000
set_option linter.unusedVariables false
section
theorem mix : Tryz.prog.follows .mixedOrders = true := by kernel_rfl
noncomputable def Y2 : TyE Tryz.prog := ⟨2, 1, (.int .i64), [.i64 ⟨0, rfl⟩], false, by kernel_rfl, by kernel_rfl, by kernel_rfl, by kernel_rfl, by kernel_rfl, by kernel_rfl⟩
noncomputable def Y25 : TyE Tryz.prog := ⟨25, 2, (.struct [(0, 2, 1), (1, 2, 1)]), [.i64 ⟨0, rfl⟩, .i64 ⟨0, rfl⟩], true, by kernel_rfl, by kernel_rfl, by kernel_rfl, by kernel_rfl, by kernel_rfl, by kernel_rfl⟩
noncomputable def Y34 : TyE Tryz.prog := ⟨34, 2, (.struct [(0, 2, 1), (1, 2, 1)]), [.i64 ⟨0, rfl⟩, .i64 ⟨0, rfl⟩], true, by kernel_rfl, by kernel_rfl, by kernel_rfl, by kernel_rfl, by kernel_rfl, by kernel_rfl⟩
noncomputable def B20 : Bod Tryz.prog := ⟨20, Tryz.f20, Tryz.f20.body.getD .skip, Tryz.func20, by kernel_rfl, by kernel_rfl, Loops.no _ _⟩
noncomputable def Tb20 : Tb Tryz.prog := { T := [Y2, Y25, Y34], mix := mix, Es := [], Bs := [], d := 1 }
noncomputable def t_laws_toPoint (a0 : Point) : Tr (Point) :=
  .leaf a0
theorem r_laws_toPoint (a0 : Point) : Tb20.run B20 [enc a0] (Point) = (t_laws_toPoint a0).opt := by kernel_rfl
noncomputable def F_laws_toPoint : Point → Point := fun a0 => (t_laws_toPoint a0).get
theorem u_laws_toPoint (a0 : Point) : (t_laws_toPoint a0).opt = some (F_laws_toPoint a0) := Tr.tot_get (by kernel_rfl)
noncomputable def E_laws_toPoint : Ent Tryz.prog := .of1 Tb20 B20 (fun _ => true) F_laws_toPoint fun a0 _ => (r_laws_toPoint a0).trans (u_laws_toPoint a0)
noncomputable def Y23 : TyE Tryz.prog := ⟨23, 5, (.struct [(0, 2, 1), (1, 2, 1), (2, 2, 1), (3, 2, 1), (4, 2, 1)]), [.i64 ⟨0, rfl⟩, .i64 ⟨0, rfl⟩, .i64 ⟨0, rfl⟩, .i64 ⟨0, rfl⟩, .i64 ⟨0, rfl⟩], true, by kernel_rfl, by kernel_rfl, by kernel_rfl, by kernel_rfl, by kernel_rfl, by kernel_rfl⟩
noncomputable def Y32 : TyE Tryz.prog := ⟨32, 5, (.struct [(0, 2, 1), (1, 2, 1), (2, 2, 1), (3, 2, 1), (4, 2, 1)]), [.i64 ⟨0, rfl⟩, .i64 ⟨0, rfl⟩, .i64 ⟨0, rfl⟩, .i64 ⟨0, rfl⟩, .i64 ⟨0, rfl⟩], true, by kernel_rfl, by kernel_rfl, by kernel_rfl, by kernel_rfl, by kernel_rfl, by kernel_rfl⟩
noncomputable def B19 : Bod Tryz.prog := ⟨19, Tryz.f19, Tryz.f19.body.getD .skip, Tryz.func19, by kernel_rfl, by kernel_rfl, Loops.no _ _⟩
noncomputable def Tb19 : Tb Tryz.prog := { T := [Y2, Y23, Y32], mix := mix, Es := [], Bs := [], d := 1 }
noncomputable def t_laws_toProjection (a0 : Proj) : Tr (Proj) :=
  .leaf a0
theorem r_laws_toProjection (a0 : Proj) : Tb19.run B19 [enc a0] (Proj) = (t_laws_toProjection a0).opt := by kernel_rfl
noncomputable def F_laws_toProjection : Proj → Proj := fun a0 => (t_laws_toProjection a0).get
theorem u_laws_toProjection (a0 : Proj) : (t_laws_toProjection a0).opt = some (F_laws_toProjection a0) := Tr.tot_get (by kernel_rfl)
noncomputable def E_laws_toProjection : Ent Tryz.prog := .of1 Tb19 B19 (fun _ => true) F_laws_toProjection fun a0 _ => (r_laws_toProjection a0).trans (u_laws_toProjection a0)
noncomputable def B102 : Bod Tryz.prog := ⟨102, Tryz.f102, Tryz.f102.body.getD .skip, Tryz.func102, by kernel_rfl, by kernel_rfl, Loops.no _ _⟩
noncomputable def Tb102 : Tb Tryz.prog := { T := [], mix := mix, Es := [], Bs := [], d := 1 }
noncomputable def t_spec_l00In (a0 : I64) (a1 : I64) (a2 : I64) : Tr (Bool) :=
  .br (decide (a0.val ≥ a1.val)) (.leaf (decide (a0.val ≤ a2.val))) (.leaf false)
theorem r_spec_l00In (a0 : I64) (a1 : I64) (a2 : I64) : Tb102.run B102 [enc a0, enc a1, enc a2] (Bool) = (t_spec_l00In a0 a1 a2).opt := by kernel_rfl
noncomputable def F_spec_l00In : I64 → I64 → I64 → Bool := fun a0 a1 a2 => (t_spec_l00In a0 a1 a2).get
theorem u_spec_l00In (a0 : I64) (a1 : I64) (a2 : I64) : (t_spec_l00In a0 a1 a2).opt = some (F_spec_l00In a0 a1 a2) := Tr.tot_get (by kernel_rfl)
noncomputable def E_spec_l00In : Ent Tryz.prog := .of3 Tb102 B102 (fun _ _ _ => true) F_spec_l00In fun a0 a1 a2 _ => (r_spec_l00In a0 a1 a2).trans (u_spec_l00In a0 a1 a2)
noncomputable def B59 : Bod Tryz.prog := ⟨59, Tryz.f59, Tryz.f59.body.getD .skip, Tryz.func59, by kernel_rfl, by kernel_rfl, Loops.no _ _⟩
noncomputable def Tb59 : Tb Tryz.prog := { T := [Y2, Y34], mix := mix, Es := [E_spec_l00In], Bs := [], d := 1 }
noncomputable def t_spec_l11Ok (a0 : Point) : Tr (Bool) :=
  .br (F_spec_l00In a0.lat ⟨(-900000000), rfl⟩ ⟨900000000, rfl⟩) (.leaf (F_spec_l00In a0.lon ⟨(-1799999999), rfl⟩ ⟨1800000000, rfl⟩)) (.leaf false)
theorem r_spec_l11Ok (a0 : Point) : Tb59.run B59 [enc a0] (Bool) = (t_spec_l11Ok a0).opt := by kernel_rfl
noncomputable def F_spec_l11Ok : Point → Bool := fun a0 => (t_spec_l11Ok a0).get
theorem u_spec_l11Ok (a0 : Point) : (t_spec_l11Ok a0).opt = some (F_spec_l11Ok a0) := Tr.tot_get (by kernel_rfl)
noncomputable def E_spec_l11Ok : Ent Tryz.prog := .of1 Tb59 B59 (fun _ => true) F_spec_l11Ok fun a0 _ => (r_spec_l11Ok a0).trans (u_spec_l11Ok a0)
noncomputable def B108 : Bod Tryz.prog := ⟨108, Tryz.f108, Tryz.f108.body.getD .skip, Tryz.func108, by kernel_rfl, by kernel_rfl, Loops.no _ _⟩
noncomputable def Tb108 : Tb Tryz.prog := { T := [], mix := mix, Es := [], Bs := [], d := 1 }
noncomputable def t_impl_within (a0 : I64) (a1 : I64) (a2 : I64) : Tr (Bool) :=
  .br (decide (a0.val ≥ a1.val)) (.leaf (decide (a0.val ≤ a2.val))) (.leaf false)
theorem r_impl_within (a0 : I64) (a1 : I64) (a2 : I64) : Tb108.run B108 [enc a0, enc a1, enc a2] (Bool) = (t_impl_within a0 a1 a2).opt := by kernel_rfl
noncomputable def F_impl_within : I64 → I64 → I64 → Bool := fun a0 a1 a2 => (t_impl_within a0 a1 a2).get
theorem u_impl_within (a0 : I64) (a1 : I64) (a2 : I64) : (t_impl_within a0 a1 a2).opt = some (F_impl_within a0 a1 a2) := Tr.tot_get (by kernel_rfl)
noncomputable def E_impl_within : Ent Tryz.prog := .of3 Tb108 B108 (fun _ _ _ => true) F_impl_within fun a0 a1 a2 _ => (r_impl_within a0 a1 a2).trans (u_impl_within a0 a1 a2)
noncomputable def B73 : Bod Tryz.prog := ⟨73, Tryz.f73, Tryz.f73.body.getD .skip, Tryz.func73, by kernel_rfl, by kernel_rfl, Loops.no _ _⟩
noncomputable def Tb73 : Tb Tryz.prog := { T := [Y2, Y34], mix := mix, Es := [E_impl_within], Bs := [], d := 1 }
noncomputable def t_impl_ValidPoint (a0 : Point) : Tr (Bool) :=
  .br (F_impl_within a0.lat ⟨(-900000000), rfl⟩ ⟨900000000, rfl⟩) (.br (decide (a0.lon.val > (-1800000000))) (.leaf (decide (a0.lon.val ≤ 1800000000))) (.leaf false)) (.leaf false)
theorem r_impl_ValidPoint (a0 : Point) : Tb73.run B73 [enc a0] (Bool) = (t_impl_ValidPoint a0).opt := by kernel_rfl
noncomputable def F_impl_ValidPoint : Point → Bool := fun a0 => (t_impl_ValidPoint a0).get
theorem u_impl_ValidPoint (a0 : Point) : (t_impl_ValidPoint a0).opt = some (F_impl_ValidPoint a0) := Tr.tot_get (by kernel_rfl)
noncomputable def E_impl_ValidPoint : Ent Tryz.prog := .of1 Tb73 B73 (fun _ => true) F_impl_ValidPoint fun a0 _ => (r_impl_ValidPoint a0).trans (u_impl_ValidPoint a0)
noncomputable def B186 : Bod Tryz.prog := ⟨186, Tryz.f186, Tryz.f186.body.getD .skip, Tryz.func186, by kernel_rfl, by kernel_rfl, Loops.no _ _⟩
noncomputable def Tb186 : Tb Tryz.prog := { T := [], mix := mix, Es := [E_impl_within], Bs := [], d := 1 }
noncomputable def t_impl_isStandard (a0 : I64) : Tr (Bool) :=
  .leaf (F_impl_within a0 ⟨(-890000000), rfl⟩ ⟨890000000, rfl⟩)
theorem r_impl_isStandard (a0 : I64) : Tb186.run B186 [enc a0] (Bool) = (t_impl_isStandard a0).opt := by kernel_rfl
noncomputable def F_impl_isStandard : I64 → Bool := fun a0 => (t_impl_isStandard a0).get
theorem u_impl_isStandard (a0 : I64) : (t_impl_isStandard a0).opt = some (F_impl_isStandard a0) := Tr.tot_get (by kernel_rfl)
noncomputable def E_impl_isStandard : Ent Tryz.prog := .of1 Tb186 B186 (fun _ => true) F_impl_isStandard fun a0 _ => (r_impl_isStandard a0).trans (u_impl_isStandard a0)
noncomputable def B187 : Bod Tryz.prog := ⟨187, Tryz.f187, Tryz.f187.body.getD .skip, Tryz.func187, by kernel_rfl, by kernel_rfl, Loops.no _ _⟩
noncomputable def Tb187 : Tb Tryz.prog := { T := [], mix := mix, Es := [E_impl_within], Bs := [], d := 1 }
noncomputable def t_impl_isAzimuthal (a0 : I64) : Tr (Bool) :=
  .leaf (F_impl_within a0 ⟨5, rfl⟩ ⟨9, rfl⟩)
theorem r_impl_isAzimuthal (a0 : I64) : Tb187.run B187 [enc a0] (Bool) = (t_impl_isAzimuthal a0).opt := by kernel_rfl
noncomputable def F_impl_isAzimuthal : I64 → Bool := fun a0 => (t_impl_isAzimuthal a0).get
theorem u_impl_isAzimuthal (a0 : I64) : (t_impl_isAzimuthal a0).opt = some (F_impl_isAzimuthal a0) := Tr.tot_get (by kernel_rfl)
noncomputable def E_impl_isAzimuthal : Ent Tryz.prog := .of1 Tb187 B187 (fun _ => true) F_impl_isAzimuthal fun a0 _ => (r_impl_isAzimuthal a0).trans (u_impl_isAzimuthal a0)
noncomputable def B188 : Bod Tryz.prog := ⟨188, Tryz.f188, Tryz.f188.body.getD .skip, Tryz.func188, by kernel_rfl, by kernel_rfl, Loops.no _ _⟩
noncomputable def Tb188 : Tb Tryz.prog := { T := [], mix := mix, Es := [E_impl_within], Bs := [], d := 1 }
noncomputable def t_impl_isConic (a0 : I64) : Tr (Bool) :=
  .leaf (F_impl_within a0 ⟨10, rfl⟩ ⟨12, rfl⟩)
theorem r_impl_isConic (a0 : I64) : Tb188.run B188 [enc a0] (Bool) = (t_impl_isConic a0).opt := by kernel_rfl
noncomputable def F_impl_isConic : I64 → Bool := fun a0 => (t_impl_isConic a0).get
theorem u_impl_isConic (a0 : I64) : (t_impl_isConic a0).opt = some (F_impl_isConic a0) := Tr.tot_get (by kernel_rfl)
noncomputable def E_impl_isConic : Ent Tryz.prog := .of1 Tb188 B188 (fun _ => true) F_impl_isConic fun a0 _ => (r_impl_isConic a0).trans (u_impl_isConic a0)
noncomputable def B189 : Bod Tryz.prog := ⟨189, Tryz.f189, Tryz.f189.body.getD .skip, Tryz.func189, by kernel_rfl, by kernel_rfl, Loops.no _ _⟩
noncomputable def Tb189 : Tb Tryz.prog := { T := [], mix := mix, Es := [], Bs := [], d := 1 }
noncomputable def t_impl_abs (a0 : I64) : Tr (I64) :=
  .leaf (mx a0 (Rng.w .i64 (0 - a0.val)))
theorem r_impl_abs (a0 : I64) : Tb189.run B189 [enc a0] (I64) = (t_impl_abs a0).opt := by kernel_rfl
noncomputable def F_impl_abs : I64 → I64 := fun a0 => (t_impl_abs a0).get
theorem u_impl_abs (a0 : I64) : (t_impl_abs a0).opt = some (F_impl_abs a0) := Tr.tot_get (by kernel_rfl)
noncomputable def E_impl_abs : Ent Tryz.prog := .of1 Tb189 B189 (fun _ => true) F_impl_abs fun a0 _ => (r_impl_abs a0).trans (u_impl_abs a0)
noncomputable def B72 : Bod Tryz.prog := ⟨72, Tryz.f72, Tryz.f72.body.getD .skip, Tryz.func72, by kernel_rfl, by kernel_rfl, Loops.no _ _⟩
noncomputable def Tb72 : Tb Tryz.prog := { T := [Y2, Y32, Y34], mix := mix, Es := [E_impl_ValidPoint, E_impl_within, E_impl_isStandard, E_impl_isAzimuthal, E_impl_isConic, E_impl_abs], Bs := [], d := 1 }
noncomputable def t_impl_ValidProjection (a0 : Proj) : Tr (Bool) :=
  .br (!(F_impl_within a0.kind ⟨1, rfl⟩ ⟨16, rfl⟩)) (.leaf false) (.br (!(F_impl_ValidPoint ⟨a0.lat0, a0.lon0⟩)) (.leaf false) (.br (!(F_impl_isStandard a0.lat1)) (.leaf false) (.br (!(F_impl_isStandard a0.lat2)) (.leaf false) (.br (F_impl_isAzimuthal a0.kind) (.br (F_impl_isConic a0.kind) (.br (!(F_impl_isConic a0.kind)) (.br (a0.lat2.val != 0) (.leaf false) (.br (!(F_impl_isConic a0.kind)) (.leaf true) (.leaf (decide ((F_impl_abs (Rng.w .i64 (a0.lat1.val + a0.lat2.val))).val ≥ 10000000))))) (.br (!(F_impl_isConic a0.kind)) (.leaf true) (.leaf (decide ((F_impl_abs (Rng.w .i64 (a0.lat1.val + a0.lat2.val))).val ≥ 10000000))))) (.br (a0.kind.val == 1) (.br (!(F_impl_isConic a0.kind)) (.br (a0.lat2.val != 0) (.leaf false) (.br (!(F_impl_isConic a0.kind)) (.leaf true) (.leaf (decide ((F_impl_abs (Rng.w .i64 (a0.lat1.val + a0.lat2.val))).val ≥ 10000000))))) (.br (!(F_impl_isConic a0.kind)) (.leaf true) (.leaf (decide ((F_impl_abs (Rng.w .i64 (a0.lat1.val + a0.lat2.val))).val ≥ 10000000))))) (.br (!(a0.kind.val == 3)) (.br (a0.lat1.val != 0) (.leaf false) (.br (!(F_impl_isConic a0.kind)) (.br (a0.lat2.val != 0) (.leaf false) (.br (!(F_impl_isConic a0.kind)) (.leaf true) (.leaf (decide ((F_impl_abs (Rng.w .i64 (a0.lat1.val + a0.lat2.val))).val ≥ 10000000))))) (.br (!(F_impl_isConic a0.kind)) (.leaf true) (.leaf (decide ((F_impl_abs (Rng.w .i64 (a0.lat1.val + a0.lat2.val))).val ≥ 10000000)))))) (.br (!(F_impl_isConic a0.kind)) (.br (a0.lat2.val != 0) (.leaf false) (.br (!(F_impl_isConic a0.kind)) (.leaf true) (.leaf (decide ((F_impl_abs (Rng.w .i64 (a0.lat1.val + a0.lat2.val))).val ≥ 10000000))))) (.br (!(F_impl_isConic a0.kind)) (.leaf true) (.leaf (decide ((F_impl_abs (Rng.w .i64 (a0.lat1.val + a0.lat2.val))).val ≥ 10000000)))))))) (.br (F_impl_isConic a0.kind) (.br (F_impl_isConic a0.kind) (.br (!(F_impl_isConic a0.kind)) (.br (a0.lat2.val != 0) (.leaf false) (.br (!(F_impl_isConic a0.kind)) (.leaf true) (.leaf (decide ((F_impl_abs (Rng.w .i64 (a0.lat1.val + a0.lat2.val))).val ≥ 10000000))))) (.br (!(F_impl_isConic a0.kind)) (.leaf true) (.leaf (decide ((F_impl_abs (Rng.w .i64 (a0.lat1.val + a0.lat2.val))).val ≥ 10000000))))) (.br (a0.kind.val == 1) (.br (!(F_impl_isConic a0.kind)) (.br (a0.lat2.val != 0) (.leaf false) (.br (!(F_impl_isConic a0.kind)) (.leaf true) (.leaf (decide ((F_impl_abs (Rng.w .i64 (a0.lat1.val + a0.lat2.val))).val ≥ 10000000))))) (.br (!(F_impl_isConic a0.kind)) (.leaf true) (.leaf (decide ((F_impl_abs (Rng.w .i64 (a0.lat1.val + a0.lat2.val))).val ≥ 10000000))))) (.br (!(a0.kind.val == 3)) (.br (a0.lat1.val != 0) (.leaf false) (.br (!(F_impl_isConic a0.kind)) (.br (a0.lat2.val != 0) (.leaf false) (.br (!(F_impl_isConic a0.kind)) (.leaf true) (.leaf (decide ((F_impl_abs (Rng.w .i64 (a0.lat1.val + a0.lat2.val))).val ≥ 10000000))))) (.br (!(F_impl_isConic a0.kind)) (.leaf true) (.leaf (decide ((F_impl_abs (Rng.w .i64 (a0.lat1.val + a0.lat2.val))).val ≥ 10000000)))))) (.br (!(F_impl_isConic a0.kind)) (.br (a0.lat2.val != 0) (.leaf false) (.br (!(F_impl_isConic a0.kind)) (.leaf true) (.leaf (decide ((F_impl_abs (Rng.w .i64 (a0.lat1.val + a0.lat2.val))).val ≥ 10000000))))) (.br (!(F_impl_isConic a0.kind)) (.leaf true) (.leaf (decide ((F_impl_abs (Rng.w .i64 (a0.lat1.val + a0.lat2.val))).val ≥ 10000000)))))))) (.br (F_impl_isConic a0.kind) (.br (!(a0.kind.val == 16)) (.br (a0.lat0.val != 0) (.leaf false) (.br (!(F_impl_isConic a0.kind)) (.br (a0.lat2.val != 0) (.leaf false) (.br (!(F_impl_isConic a0.kind)) (.leaf true) (.leaf (decide ((F_impl_abs (Rng.w .i64 (a0.lat1.val + a0.lat2.val))).val ≥ 10000000))))) (.br (!(F_impl_isConic a0.kind)) (.leaf true) (.leaf (decide ((F_impl_abs (Rng.w .i64 (a0.lat1.val + a0.lat2.val))).val ≥ 10000000)))))) (.br (!(F_impl_isConic a0.kind)) (.br (a0.lat2.val != 0) (.leaf false) (.br (!(F_impl_isConic a0.kind)) (.leaf true) (.leaf (decide ((F_impl_abs (Rng.w .i64 (a0.lat1.val + a0.lat2.val))).val ≥ 10000000))))) (.br (!(F_impl_isConic a0.kind)) (.leaf true) (.leaf (decide ((F_impl_abs (Rng.w .i64 (a0.lat1.val + a0.lat2.val))).val ≥ 10000000)))))) (.br (a0.kind.val == 1) (.br (!(a0.kind.val == 16)) (.br (a0.lat0.val != 0) (.leaf false) (.br (!(F_impl_isConic a0.kind)) (.br (a0.lat2.val != 0) (.leaf false) (.br (!(F_impl_isConic a0.kind)) (.leaf true) (.leaf (decide ((F_impl_abs (Rng.w .i64 (a0.lat1.val + a0.lat2.val))).val ≥ 10000000))))) (.br (!(F_impl_isConic a0.kind)) (.leaf true) (.leaf (decide ((F_impl_abs (Rng.w .i64 (a0.lat1.val + a0.lat2.val))).val ≥ 10000000)))))) (.br (!(F_impl_isConic a0.kind)) (.br (a0.lat2.val != 0) (.leaf false) (.br (!(F_impl_isConic a0.kind)) (.leaf true) (.leaf (decide ((F_impl_abs (Rng.w .i64 (a0.lat1.val + a0.lat2.val))).val ≥ 10000000))))) (.br (!(F_impl_isConic a0.kind)) (.leaf true) (.leaf (decide ((F_impl_abs (Rng.w .i64 (a0.lat1.val + a0.lat2.val))).val ≥ 10000000)))))) (.br (!(a0.kind.val == 16)) (.br (a0.lat0.val != 0) (.leaf false) (.br (!(a0.kind.val == 3)) (.br (a0.lat1.val != 0) (.leaf false) (.br (!(F_impl_isConic a0.kind)) (.br (a0.lat2.val != 0) (.leaf false) (.br (!(F_impl_isConic a0.kind)) (.leaf true) (.leaf (decide ((F_impl_abs (Rng.w .i64 (a0.lat1.val + a0.lat2.val))).val ≥ 10000000))))) (.br (!(F_impl_isConic a0.kind)) (.leaf true) (.leaf (decide ((F_impl_abs (Rng.w .i64 (a0.lat1.val + a0.lat2.val))).val ≥ 10000000)))))) (.br (!(F_impl_isConic a0.kind)) (.br (a0.lat2.val != 0) (.leaf false) (.br (!(F_impl_isConic a0.kind)) (.leaf true) (.leaf (decide ((F_impl_abs (Rng.w .i64 (a0.lat1.val + a0.lat2.val))).val ≥ 10000000))))) (.br (!(F_impl_isConic a0.kind)) (.leaf true) (.leaf (decide ((F_impl_abs (Rng.w .i64 (a0.lat1.val + a0.lat2.val))).val ≥ 10000000))))))) (.br (!(a0.kind.val == 3)) (.br (a0.lat1.val != 0) (.leaf false) (.br (!(F_impl_isConic a0.kind)) (.br (a0.lat2.val != 0) (.leaf false) (.br (!(F_impl_isConic a0.kind)) (.leaf true) (.leaf (decide ((F_impl_abs (Rng.w .i64 (a0.lat1.val + a0.lat2.val))).val ≥ 10000000))))) (.br (!(F_impl_isConic a0.kind)) (.leaf true) (.leaf (decide ((F_impl_abs (Rng.w .i64 (a0.lat1.val + a0.lat2.val))).val ≥ 10000000)))))) (.br (!(F_impl_isConic a0.kind)) (.br (a0.lat2.val != 0) (.leaf false) (.br (!(F_impl_isConic a0.kind)) (.leaf true) (.leaf (decide ((F_impl_abs (Rng.w .i64 (a0.lat1.val + a0.lat2.val))).val ≥ 10000000))))) (.br (!(F_impl_isConic a0.kind)) (.leaf true) (.leaf (decide ((F_impl_abs (Rng.w .i64 (a0.lat1.val + a0.lat2.val))).val ≥ 10000000))))))))))))))
theorem r_impl_ValidProjection (a0 : Proj) : Tb72.run B72 [enc a0] (Bool) = (t_impl_ValidProjection a0).opt := by kernel_rfl
noncomputable def F_impl_ValidProjection : Proj → Bool := fun a0 => (t_impl_ValidProjection a0).get
theorem u_impl_ValidProjection (a0 : Proj) : (t_impl_ValidProjection a0).opt = some (F_impl_ValidProjection a0) := Tr.tot_get (by kernel_rfl)
noncomputable def E_impl_ValidProjection : Ent Tryz.prog := .of1 Tb72 B72 (fun _ => true) F_impl_ValidProjection fun a0 _ => (r_impl_ValidProjection a0).trans (u_impl_ValidProjection a0)
end
end Go.Proofs.YtecfhpgpojgjkaaGreat.Ev
