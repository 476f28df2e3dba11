import Derived.Test.YtegdoadciojpaaaDoorGvC
import Derived.Test.YtegdoadciojpaaaDoorChecked
import Derived.KernelRfl
namespace Go.Proofs.YtegdoadciojpaaaDoor.Ev
open Go Go.RowKit
set_option maxRecDepth 100000
set_option linter.unusedVariables false
section
theorem mix : Tryd.prog.follows .mixedOrders = true := by kernel_rfl
noncomputable def Y2 : TyE Tryd.prog := ⟨2, 1, (.int .i64), [.i64 ⟨0, rfl⟩], false, by kernel_rfl, by kernel_rfl, by kernel_rfl, by kernel_rfl, by kernel_rfl, by kernel_rfl⟩
noncomputable def Y27 : TyE Tryd.prog := ⟨27, 5, (.struct [(0, 2, 1), (1, 2, 1), (2, 2, 1), (3, 2, 1), (4, 2, 1)]), [.i64 ⟨0, rfl⟩, .i64 ⟨0, rfl⟩, .i64 ⟨0, rfl⟩, .i64 ⟨0, rfl⟩, .i64 ⟨0, rfl⟩], true, by kernel_rfl, by kernel_rfl, by kernel_rfl, by kernel_rfl, by kernel_rfl, by kernel_rfl⟩
noncomputable def Y29 : TyE Tryd.prog := ⟨29, 5, (.struct [(0, 2, 1), (1, 2, 1), (2, 2, 1), (3, 2, 1), (4, 2, 1)]), [.i64 ⟨0, rfl⟩, .i64 ⟨0, rfl⟩, .i64 ⟨0, rfl⟩, .i64 ⟨0, rfl⟩, .i64 ⟨0, rfl⟩], true, by kernel_rfl, by kernel_rfl, by kernel_rfl, by kernel_rfl, by kernel_rfl, by kernel_rfl⟩
noncomputable def B13 : Bod Tryd.prog := ⟨13, Tryd.f13, Tryd.f13.body.getD .skip, Tryd.func13, by kernel_rfl, by kernel_rfl, Loops.no _ _⟩
noncomputable def Tb13 : Tb Tryd.prog := { T := [Y2, Y27, Y29], mix := mix, Es := [], Bs := [], d := 1 }
noncomputable def t_laws_toProjection (a0 : Proj) : Tr (Proj) :=
  .leaf a0
theorem r_laws_toProjection (a0 : Proj) : Tb13.run B13 [enc a0] (Proj) = (t_laws_toProjection a0).opt := by kernel_rfl
noncomputable def F_laws_toProjection : Proj → Proj := fun a0 => (t_laws_toProjection a0).get
theorem u_laws_toProjection (a0 : Proj) : (t_laws_toProjection a0).opt = some (F_laws_toProjection a0) := Tr.tot_get (by kernel_rfl)
noncomputable def E_laws_toProjection : Ent Tryd.prog := .of1 Tb13 B13 (fun _ => true) F_laws_toProjection fun a0 _ => (r_laws_toProjection a0).trans (u_laws_toProjection a0)
noncomputable def B23 : Bod Tryd.prog := ⟨23, Tryd.f23, Tryd.f23.body.getD .skip, Tryd.func23, by kernel_rfl, by kernel_rfl, Loops.no _ _⟩
noncomputable def Tb23 : Tb Tryd.prog := { T := [], mix := mix, Es := [], Bs := [], d := 1 }
noncomputable def t_impl_within (a0 : I64) (a1 : I64) (a2 : I64) : Tr (Bool) :=
  .br (decide (a0.val ≥ a1.val)) (.leaf (decide (a0.val ≤ a2.val))) (.leaf false)
theorem r_impl_within (a0 : I64) (a1 : I64) (a2 : I64) : Tb23.run B23 [enc a0, enc a1, enc a2] (Bool) = (t_impl_within a0 a1 a2).opt := by kernel_rfl
noncomputable def F_impl_within : I64 → I64 → I64 → Bool := fun a0 a1 a2 => (t_impl_within a0 a1 a2).get
theorem u_impl_within (a0 : I64) (a1 : I64) (a2 : I64) : (t_impl_within a0 a1 a2).opt = some (F_impl_within a0 a1 a2) := Tr.tot_get (by kernel_rfl)
noncomputable def E_impl_within : Ent Tryd.prog := .of3 Tb23 B23 (fun _ _ _ => true) F_impl_within fun a0 a1 a2 _ => (r_impl_within a0 a1 a2).trans (u_impl_within a0 a1 a2)
noncomputable def Y37 : TyE Tryd.prog := ⟨37, 2, (.struct [(0, 2, 1), (1, 2, 1)]), [.i64 ⟨0, rfl⟩, .i64 ⟨0, rfl⟩], true, by kernel_rfl, by kernel_rfl, by kernel_rfl, by kernel_rfl, by kernel_rfl, by kernel_rfl⟩
noncomputable def B42 : Bod Tryd.prog := ⟨42, Tryd.f42, Tryd.f42.body.getD .skip, Tryd.func42, by kernel_rfl, by kernel_rfl, Loops.no _ _⟩
noncomputable def Tb42 : Tb Tryd.prog := { T := [Y2, Y37], mix := mix, Es := [E_impl_within], Bs := [], d := 1 }
noncomputable def t_impl_ValidPoint (a0 : Point) : Tr (Bool) :=
  .br (F_impl_within a0.lat ⟨(-900000000), rfl⟩ ⟨900000000, rfl⟩) (.br (decide (a0.lon.val > (-1800000000))) (.leaf (decide (a0.lon.val ≤ 1800000000))) (.leaf false)) (.leaf false)
theorem r_impl_ValidPoint (a0 : Point) : Tb42.run B42 [enc a0] (Bool) = (t_impl_ValidPoint a0).opt := by kernel_rfl
noncomputable def F_impl_ValidPoint : Point → Bool := fun a0 => (t_impl_ValidPoint a0).get
theorem u_impl_ValidPoint (a0 : Point) : (t_impl_ValidPoint a0).opt = some (F_impl_ValidPoint a0) := Tr.tot_get (by kernel_rfl)
noncomputable def E_impl_ValidPoint : Ent Tryd.prog := .of1 Tb42 B42 (fun _ => true) F_impl_ValidPoint fun a0 _ => (r_impl_ValidPoint a0).trans (u_impl_ValidPoint a0)
noncomputable def B43 : Bod Tryd.prog := ⟨43, Tryd.f43, Tryd.f43.body.getD .skip, Tryd.func43, by kernel_rfl, by kernel_rfl, Loops.no _ _⟩
noncomputable def Tb43 : Tb Tryd.prog := { T := [], mix := mix, Es := [E_impl_within], Bs := [], d := 1 }
noncomputable def t_impl_isStandard (a0 : I64) : Tr (Bool) :=
  .leaf (F_impl_within a0 ⟨(-890000000), rfl⟩ ⟨890000000, rfl⟩)
theorem r_impl_isStandard (a0 : I64) : Tb43.run B43 [enc a0] (Bool) = (t_impl_isStandard a0).opt := by kernel_rfl
noncomputable def F_impl_isStandard : I64 → Bool := fun a0 => (t_impl_isStandard a0).get
theorem u_impl_isStandard (a0 : I64) : (t_impl_isStandard a0).opt = some (F_impl_isStandard a0) := Tr.tot_get (by kernel_rfl)
noncomputable def E_impl_isStandard : Ent Tryd.prog := .of1 Tb43 B43 (fun _ => true) F_impl_isStandard fun a0 _ => (r_impl_isStandard a0).trans (u_impl_isStandard a0)
noncomputable def B44 : Bod Tryd.prog := ⟨44, Tryd.f44, Tryd.f44.body.getD .skip, Tryd.func44, by kernel_rfl, by kernel_rfl, Loops.no _ _⟩
noncomputable def Tb44 : Tb Tryd.prog := { T := [], mix := mix, Es := [E_impl_within], Bs := [], d := 1 }
noncomputable def t_impl_isAzimuthal (a0 : I64) : Tr (Bool) :=
  .leaf (F_impl_within a0 ⟨5, rfl⟩ ⟨9, rfl⟩)
theorem r_impl_isAzimuthal (a0 : I64) : Tb44.run B44 [enc a0] (Bool) = (t_impl_isAzimuthal a0).opt := by kernel_rfl
noncomputable def F_impl_isAzimuthal : I64 → Bool := fun a0 => (t_impl_isAzimuthal a0).get
theorem u_impl_isAzimuthal (a0 : I64) : (t_impl_isAzimuthal a0).opt = some (F_impl_isAzimuthal a0) := Tr.tot_get (by kernel_rfl)
noncomputable def E_impl_isAzimuthal : Ent Tryd.prog := .of1 Tb44 B44 (fun _ => true) F_impl_isAzimuthal fun a0 _ => (r_impl_isAzimuthal a0).trans (u_impl_isAzimuthal a0)
noncomputable def B45 : Bod Tryd.prog := ⟨45, Tryd.f45, Tryd.f45.body.getD .skip, Tryd.func45, by kernel_rfl, by kernel_rfl, Loops.no _ _⟩
noncomputable def Tb45 : Tb Tryd.prog := { T := [], mix := mix, Es := [E_impl_within], Bs := [], d := 1 }
noncomputable def t_impl_isConic (a0 : I64) : Tr (Bool) :=
  .leaf (F_impl_within a0 ⟨10, rfl⟩ ⟨12, rfl⟩)
theorem r_impl_isConic (a0 : I64) : Tb45.run B45 [enc a0] (Bool) = (t_impl_isConic a0).opt := by kernel_rfl
noncomputable def F_impl_isConic : I64 → Bool := fun a0 => (t_impl_isConic a0).get
theorem u_impl_isConic (a0 : I64) : (t_impl_isConic a0).opt = some (F_impl_isConic a0) := Tr.tot_get (by kernel_rfl)
noncomputable def E_impl_isConic : Ent Tryd.prog := .of1 Tb45 B45 (fun _ => true) F_impl_isConic fun a0 _ => (r_impl_isConic a0).trans (u_impl_isConic a0)
noncomputable def B46 : Bod Tryd.prog := ⟨46, Tryd.f46, Tryd.f46.body.getD .skip, Tryd.func46, by kernel_rfl, by kernel_rfl, Loops.no _ _⟩
noncomputable def Tb46 : Tb Tryd.prog := { T := [], mix := mix, Es := [], Bs := [], d := 1 }
noncomputable def t_impl_abs (a0 : I64) : Tr (I64) :=
  .leaf (mx a0 (Rng.w .i64 (0 - a0.val)))
theorem r_impl_abs (a0 : I64) : Tb46.run B46 [enc a0] (I64) = (t_impl_abs a0).opt := by kernel_rfl
noncomputable def F_impl_abs : I64 → I64 := fun a0 => (t_impl_abs a0).get
theorem u_impl_abs (a0 : I64) : (t_impl_abs a0).opt = some (F_impl_abs a0) := Tr.tot_get (by kernel_rfl)
noncomputable def E_impl_abs : Ent Tryd.prog := .of1 Tb46 B46 (fun _ => true) F_impl_abs fun a0 _ => (r_impl_abs a0).trans (u_impl_abs a0)
noncomputable def B27 : Bod Tryd.prog := ⟨27, Tryd.f27, Tryd.f27.body.getD .skip, Tryd.func27, by kernel_rfl, by kernel_rfl, Loops.no _ _⟩
noncomputable def Tb27 : Tb Tryd.prog := { T := [Y2, Y29, Y37], mix := mix, Es := [E_impl_within, E_impl_ValidPoint, E_impl_isStandard, E_impl_isAzimuthal, E_impl_isConic, E_impl_abs], Bs := [], d := 1 }
noncomputable def t_impl_ValidProjection (a0 : Proj) : Tr (Bool) :=
  .br (!(F_impl_within a0.kind ⟨1, rfl⟩ ⟨16, rfl⟩)) (.leaf false) (.br (!(F_impl_ValidPoint ⟨a0.lat0, a0.lon0⟩)) (.leaf false) (.br (!(F_impl_isStandard a0.lat1)) (.leaf false) (.br (!(F_impl_isStandard a0.lat2)) (.leaf false) (.br (F_impl_isAzimuthal a0.kind) (.br (F_impl_isConic a0.kind) (.br (!(F_impl_isConic a0.kind)) (.br (a0.lat2.val != 0) (.leaf false) (.br (!(F_impl_isConic a0.kind)) (.leaf true) (.leaf (decide ((F_impl_abs (Rng.w .i64 (a0.lat1.val + a0.lat2.val))).val ≥ 10000000))))) (.br (!(F_impl_isConic a0.kind)) (.leaf true) (.leaf (decide ((F_impl_abs (Rng.w .i64 (a0.lat1.val + a0.lat2.val))).val ≥ 10000000))))) (.br (a0.kind.val == 1) (.br (!(F_impl_isConic a0.kind)) (.br (a0.lat2.val != 0) (.leaf false) (.br (!(F_impl_isConic a0.kind)) (.leaf true) (.leaf (decide ((F_impl_abs (Rng.w .i64 (a0.lat1.val + a0.lat2.val))).val ≥ 10000000))))) (.br (!(F_impl_isConic a0.kind)) (.leaf true) (.leaf (decide ((F_impl_abs (Rng.w .i64 (a0.lat1.val + a0.lat2.val))).val ≥ 10000000))))) (.br (!(a0.kind.val == 3)) (.br (a0.lat1.val != 0) (.leaf false) (.br (!(F_impl_isConic a0.kind)) (.br (a0.lat2.val != 0) (.leaf false) (.br (!(F_impl_isConic a0.kind)) (.leaf true) (.leaf (decide ((F_impl_abs (Rng.w .i64 (a0.lat1.val + a0.lat2.val))).val ≥ 10000000))))) (.br (!(F_impl_isConic a0.kind)) (.leaf true) (.leaf (decide ((F_impl_abs (Rng.w .i64 (a0.lat1.val + a0.lat2.val))).val ≥ 10000000)))))) (.br (!(F_impl_isConic a0.kind)) (.br (a0.lat2.val != 0) (.leaf false) (.br (!(F_impl_isConic a0.kind)) (.leaf true) (.leaf (decide ((F_impl_abs (Rng.w .i64 (a0.lat1.val + a0.lat2.val))).val ≥ 10000000))))) (.br (!(F_impl_isConic a0.kind)) (.leaf true) (.leaf (decide ((F_impl_abs (Rng.w .i64 (a0.lat1.val + a0.lat2.val))).val ≥ 10000000)))))))) (.br (F_impl_isConic a0.kind) (.br (F_impl_isConic a0.kind) (.br (!(F_impl_isConic a0.kind)) (.br (a0.lat2.val != 0) (.leaf false) (.br (!(F_impl_isConic a0.kind)) (.leaf true) (.leaf (decide ((F_impl_abs (Rng.w .i64 (a0.lat1.val + a0.lat2.val))).val ≥ 10000000))))) (.br (!(F_impl_isConic a0.kind)) (.leaf true) (.leaf (decide ((F_impl_abs (Rng.w .i64 (a0.lat1.val + a0.lat2.val))).val ≥ 10000000))))) (.br (a0.kind.val == 1) (.br (!(F_impl_isConic a0.kind)) (.br (a0.lat2.val != 0) (.leaf false) (.br (!(F_impl_isConic a0.kind)) (.leaf true) (.leaf (decide ((F_impl_abs (Rng.w .i64 (a0.lat1.val + a0.lat2.val))).val ≥ 10000000))))) (.br (!(F_impl_isConic a0.kind)) (.leaf true) (.leaf (decide ((F_impl_abs (Rng.w .i64 (a0.lat1.val + a0.lat2.val))).val ≥ 10000000))))) (.br (!(a0.kind.val == 3)) (.br (a0.lat1.val != 0) (.leaf false) (.br (!(F_impl_isConic a0.kind)) (.br (a0.lat2.val != 0) (.leaf false) (.br (!(F_impl_isConic a0.kind)) (.leaf true) (.leaf (decide ((F_impl_abs (Rng.w .i64 (a0.lat1.val + a0.lat2.val))).val ≥ 10000000))))) (.br (!(F_impl_isConic a0.kind)) (.leaf true) (.leaf (decide ((F_impl_abs (Rng.w .i64 (a0.lat1.val + a0.lat2.val))).val ≥ 10000000)))))) (.br (!(F_impl_isConic a0.kind)) (.br (a0.lat2.val != 0) (.leaf false) (.br (!(F_impl_isConic a0.kind)) (.leaf true) (.leaf (decide ((F_impl_abs (Rng.w .i64 (a0.lat1.val + a0.lat2.val))).val ≥ 10000000))))) (.br (!(F_impl_isConic a0.kind)) (.leaf true) (.leaf (decide ((F_impl_abs (Rng.w .i64 (a0.lat1.val + a0.lat2.val))).val ≥ 10000000)))))))) (.br (F_impl_isConic a0.kind) (.br (!(a0.kind.val == 16)) (.br (a0.lat0.val != 0) (.leaf false) (.br (!(F_impl_isConic a0.kind)) (.br (a0.lat2.val != 0) (.leaf false) (.br (!(F_impl_isConic a0.kind)) (.leaf true) (.leaf (decide ((F_impl_abs (Rng.w .i64 (a0.lat1.val + a0.lat2.val))).val ≥ 10000000))))) (.br (!(F_impl_isConic a0.kind)) (.leaf true) (.leaf (decide ((F_impl_abs (Rng.w .i64 (a0.lat1.val + a0.lat2.val))).val ≥ 10000000)))))) (.br (!(F_impl_isConic a0.kind)) (.br (a0.lat2.val != 0) (.leaf false) (.br (!(F_impl_isConic a0.kind)) (.leaf true) (.leaf (decide ((F_impl_abs (Rng.w .i64 (a0.lat1.val + a0.lat2.val))).val ≥ 10000000))))) (.br (!(F_impl_isConic a0.kind)) (.leaf true) (.leaf (decide ((F_impl_abs (Rng.w .i64 (a0.lat1.val + a0.lat2.val))).val ≥ 10000000)))))) (.br (a0.kind.val == 1) (.br (!(a0.kind.val == 16)) (.br (a0.lat0.val != 0) (.leaf false) (.br (!(F_impl_isConic a0.kind)) (.br (a0.lat2.val != 0) (.leaf false) (.br (!(F_impl_isConic a0.kind)) (.leaf true) (.leaf (decide ((F_impl_abs (Rng.w .i64 (a0.lat1.val + a0.lat2.val))).val ≥ 10000000))))) (.br (!(F_impl_isConic a0.kind)) (.leaf true) (.leaf (decide ((F_impl_abs (Rng.w .i64 (a0.lat1.val + a0.lat2.val))).val ≥ 10000000)))))) (.br (!(F_impl_isConic a0.kind)) (.br (a0.lat2.val != 0) (.leaf false) (.br (!(F_impl_isConic a0.kind)) (.leaf true) (.leaf (decide ((F_impl_abs (Rng.w .i64 (a0.lat1.val + a0.lat2.val))).val ≥ 10000000))))) (.br (!(F_impl_isConic a0.kind)) (.leaf true) (.leaf (decide ((F_impl_abs (Rng.w .i64 (a0.lat1.val + a0.lat2.val))).val ≥ 10000000)))))) (.br (!(a0.kind.val == 16)) (.br (a0.lat0.val != 0) (.leaf false) (.br (!(a0.kind.val == 3)) (.br (a0.lat1.val != 0) (.leaf false) (.br (!(F_impl_isConic a0.kind)) (.br (a0.lat2.val != 0) (.leaf false) (.br (!(F_impl_isConic a0.kind)) (.leaf true) (.leaf (decide ((F_impl_abs (Rng.w .i64 (a0.lat1.val + a0.lat2.val))).val ≥ 10000000))))) (.br (!(F_impl_isConic a0.kind)) (.leaf true) (.leaf (decide ((F_impl_abs (Rng.w .i64 (a0.lat1.val + a0.lat2.val))).val ≥ 10000000)))))) (.br (!(F_impl_isConic a0.kind)) (.br (a0.lat2.val != 0) (.leaf false) (.br (!(F_impl_isConic a0.kind)) (.leaf true) (.leaf (decide ((F_impl_abs (Rng.w .i64 (a0.lat1.val + a0.lat2.val))).val ≥ 10000000))))) (.br (!(F_impl_isConic a0.kind)) (.leaf true) (.leaf (decide ((F_impl_abs (Rng.w .i64 (a0.lat1.val + a0.lat2.val))).val ≥ 10000000))))))) (.br (!(a0.kind.val == 3)) (.br (a0.lat1.val != 0) (.leaf false) (.br (!(F_impl_isConic a0.kind)) (.br (a0.lat2.val != 0) (.leaf false) (.br (!(F_impl_isConic a0.kind)) (.leaf true) (.leaf (decide ((F_impl_abs (Rng.w .i64 (a0.lat1.val + a0.lat2.val))).val ≥ 10000000))))) (.br (!(F_impl_isConic a0.kind)) (.leaf true) (.leaf (decide ((F_impl_abs (Rng.w .i64 (a0.lat1.val + a0.lat2.val))).val ≥ 10000000)))))) (.br (!(F_impl_isConic a0.kind)) (.br (a0.lat2.val != 0) (.leaf false) (.br (!(F_impl_isConic a0.kind)) (.leaf true) (.leaf (decide ((F_impl_abs (Rng.w .i64 (a0.lat1.val + a0.lat2.val))).val ≥ 10000000))))) (.br (!(F_impl_isConic a0.kind)) (.leaf true) (.leaf (decide ((F_impl_abs (Rng.w .i64 (a0.lat1.val + a0.lat2.val))).val ≥ 10000000))))))))))))))
theorem r_impl_ValidProjection (a0 : Proj) : Tb27.run B27 [enc a0] (Bool) = (t_impl_ValidProjection a0).opt := by kernel_rfl
noncomputable def F_impl_ValidProjection : Proj → Bool := fun a0 => (t_impl_ValidProjection a0).get
theorem u_impl_ValidProjection (a0 : Proj) : (t_impl_ValidProjection a0).opt = some (F_impl_ValidProjection a0) := Tr.tot_get (by kernel_rfl)
noncomputable def E_impl_ValidProjection : Ent Tryd.prog := .of1 Tb27 B27 (fun _ => true) F_impl_ValidProjection fun a0 _ => (r_impl_ValidProjection a0).trans (u_impl_ValidProjection a0)
noncomputable def B21 : Bod Tryd.prog := ⟨21, Tryd.f21, Tryd.f21.body.getD .skip, Tryd.func21, by kernel_rfl, by kernel_rfl, Loops.no _ _⟩
noncomputable def Tb21 : Tb Tryd.prog := { T := [], mix := mix, Es := [], Bs := [], d := 1 }
noncomputable def t_spec_l00In (a0 : I64) (a1 : I64) (a2 : I64) : Tr (Bool) :=
  .br (decide (a0.val ≥ a1.val)) (.leaf (decide (a0.val ≤ a2.val))) (.leaf false)
theorem r_spec_l00In (a0 : I64) (a1 : I64) (a2 : I64) : Tb21.run B21 [enc a0, enc a1, enc a2] (Bool) = (t_spec_l00In a0 a1 a2).opt := by kernel_rfl
noncomputable def F_spec_l00In : I64 → I64 → I64 → Bool := fun a0 a1 a2 => (t_spec_l00In a0 a1 a2).get
theorem u_spec_l00In (a0 : I64) (a1 : I64) (a2 : I64) : (t_spec_l00In a0 a1 a2).opt = some (F_spec_l00In a0 a1 a2) := Tr.tot_get (by kernel_rfl)
noncomputable def E_spec_l00In : Ent Tryd.prog := .of3 Tb21 B21 (fun _ _ _ => true) F_spec_l00In fun a0 a1 a2 _ => (r_spec_l00In a0 a1 a2).trans (u_spec_l00In a0 a1 a2)
noncomputable def B39 : Bod Tryd.prog := ⟨39, Tryd.f39, Tryd.f39.body.getD .skip, Tryd.func39, by kernel_rfl, by kernel_rfl, Loops.no _ _⟩
noncomputable def Tb39 : Tb Tryd.prog := { T := [Y2, Y37], mix := mix, Es := [E_spec_l00In], Bs := [], d := 1 }
noncomputable def t_spec_l11Ok (a0 : Point) : Tr (Bool) :=
  .br (F_spec_l00In a0.lat ⟨(-900000000), rfl⟩ ⟨900000000, rfl⟩) (.leaf (F_spec_l00In a0.lon ⟨(-1799999999), rfl⟩ ⟨1800000000, rfl⟩)) (.leaf false)
theorem r_spec_l11Ok (a0 : Point) : Tb39.run B39 [enc a0] (Bool) = (t_spec_l11Ok a0).opt := by kernel_rfl
noncomputable def F_spec_l11Ok : Point → Bool := fun a0 => (t_spec_l11Ok a0).get
theorem u_spec_l11Ok (a0 : Point) : (t_spec_l11Ok a0).opt = some (F_spec_l11Ok a0) := Tr.tot_get (by kernel_rfl)
noncomputable def E_spec_l11Ok : Ent Tryd.prog := .of1 Tb39 B39 (fun _ => true) F_spec_l11Ok fun a0 _ => (r_spec_l11Ok a0).trans (u_spec_l11Ok a0)
noncomputable def B40 : Bod Tryd.prog := ⟨40, Tryd.f40, Tryd.f40.body.getD .skip, Tryd.func40, by kernel_rfl, by kernel_rfl, Loops.no _ _⟩
noncomputable def Tb40 : Tb Tryd.prog := { T := [], mix := mix, Es := [E_spec_l00In], Bs := [], d := 1 }
noncomputable def t_spec_l17Standard (a0 : I64) : Tr (Bool) :=
  .leaf (F_spec_l00In a0 ⟨(-890000000), rfl⟩ ⟨890000000, rfl⟩)
theorem r_spec_l17Standard (a0 : I64) : Tb40.run B40 [enc a0] (Bool) = (t_spec_l17Standard a0).opt := by kernel_rfl
noncomputable def F_spec_l17Standard : I64 → Bool := fun a0 => (t_spec_l17Standard a0).get
theorem u_spec_l17Standard (a0 : I64) : (t_spec_l17Standard a0).opt = some (F_spec_l17Standard a0) := Tr.tot_get (by kernel_rfl)
noncomputable def E_spec_l17Standard : Ent Tryd.prog := .of1 Tb40 B40 (fun _ => true) F_spec_l17Standard fun a0 _ => (r_spec_l17Standard a0).trans (u_spec_l17Standard a0)
noncomputable def B25 : Bod Tryd.prog := ⟨25, Tryd.f25, Tryd.f25.body.getD .skip, Tryd.func25, by kernel_rfl, by kernel_rfl, Loops.no _ _⟩
noncomputable def Tb25 : Tb Tryd.prog := { T := [Y2, Y29, Y37], mix := mix, Es := [E_spec_l11Ok, E_spec_l17Standard], Bs := [], d := 1 }
noncomputable def t_spec_l17Ok (a0 : Proj) : Tr (Bool) :=
  .br (!(F_spec_l11Ok ⟨a0.lat0, a0.lon0⟩)) (.leaf false) (.br (!(F_spec_l17Standard a0.lat1)) (.leaf false) (.br (!(F_spec_l17Standard a0.lat2)) (.leaf false) (.br (a0.kind.val == 1) (.br (a0.lat0.val == 0) (.leaf (a0.lat2.val == 0)) (.leaf false)) (.br (a0.kind.val == 3) (.br (a0.lat0.val == 0) (.leaf (a0.lat2.val == 0)) (.leaf false)) (.br (a0.kind.val == 2) (.br (a0.lat0.val == 0) (.br (a0.lat1.val == 0) (.leaf (a0.lat2.val == 0)) (.leaf false)) (.leaf false)) (.br (a0.kind.val == 4) (.br (a0.lat0.val == 0) (.br (a0.lat1.val == 0) (.leaf (a0.lat2.val == 0)) (.leaf false)) (.leaf false)) (.br (a0.kind.val == 13) (.br (a0.lat0.val == 0) (.br (a0.lat1.val == 0) (.leaf (a0.lat2.val == 0)) (.leaf false)) (.leaf false)) (.br (a0.kind.val == 14) (.br (a0.lat0.val == 0) (.br (a0.lat1.val == 0) (.leaf (a0.lat2.val == 0)) (.leaf false)) (.leaf false)) (.br (a0.kind.val == 15) (.br (a0.lat0.val == 0) (.br (a0.lat1.val == 0) (.leaf (a0.lat2.val == 0)) (.leaf false)) (.leaf false)) (.br (a0.kind.val == 5) (.br (a0.lat1.val == 0) (.leaf (a0.lat2.val == 0)) (.leaf false)) (.br (a0.kind.val == 6) (.br (a0.lat1.val == 0) (.leaf (a0.lat2.val == 0)) (.leaf false)) (.br (a0.kind.val == 7) (.br (a0.lat1.val == 0) (.leaf (a0.lat2.val == 0)) (.leaf false)) (.br (a0.kind.val == 8) (.br (a0.lat1.val == 0) (.leaf (a0.lat2.val == 0)) (.leaf false)) (.br (a0.kind.val == 9) (.br (a0.lat1.val == 0) (.leaf (a0.lat2.val == 0)) (.leaf false)) (.br (a0.kind.val == 16) (.br (a0.lat1.val == 0) (.leaf (a0.lat2.val == 0)) (.leaf false)) (.br (a0.kind.val == 10) (let c4 := (Rng.w .i64 (a0.lat1.val + a0.lat2.val)); .br (decide (c4.val ≥ 10000000)) (.leaf true) (.leaf (decide (c4.val ≤ (-10000000))))) (.br (a0.kind.val == 11) (let c7 := (Rng.w .i64 (a0.lat1.val + a0.lat2.val)); .br (decide (c7.val ≥ 10000000)) (.leaf true) (.leaf (decide (c7.val ≤ (-10000000))))) (.br (a0.kind.val == 12) (let c10 := (Rng.w .i64 (a0.lat1.val + a0.lat2.val)); .br (decide (c10.val ≥ 10000000)) (.leaf true) (.leaf (decide (c10.val ≤ (-10000000))))) (.leaf false)))))))))))))))))))
theorem r_spec_l17Ok (a0 : Proj) : Tb25.run B25 [enc a0] (Bool) = (t_spec_l17Ok a0).opt := by kernel_rfl
noncomputable def F_spec_l17Ok : Proj → Bool := fun a0 => (t_spec_l17Ok a0).get
theorem u_spec_l17Ok (a0 : Proj) : (t_spec_l17Ok a0).opt = some (F_spec_l17Ok a0) := Tr.tot_get (by kernel_rfl)
noncomputable def E_spec_l17Ok : Ent Tryd.prog := .of1 Tb25 B25 (fun _ => true) F_spec_l17Ok fun a0 _ => (r_spec_l17Ok a0).trans (u_spec_l17Ok a0)
noncomputable def B20 : Bod Tryd.prog := ⟨20, Tryd.f20, Tryd.f20.body.getD .skip, Tryd.func20, by kernel_rfl, by kernel_rfl, Loops.no _ _⟩
noncomputable def Tb20 : Tb Tryd.prog := { T := [Y2, Y29], mix := mix, Es := [], Bs := [], d := 1 }
noncomputable def t_laws_eqProjection (a0 : Proj) (a1 : Proj) : Tr (Bool) :=
  .br (a0.kind.val != a1.kind.val) (.leaf false) (.br (a0.lat0.val != a1.lat0.val) (.leaf false) (.br (a0.lon0.val != a1.lon0.val) (.leaf false) (.br (a0.lat1.val != a1.lat1.val) (.leaf false) (.br (a0.lat2.val != a1.lat2.val) (.leaf false) (.leaf true)))))
theorem r_laws_eqProjection (a0 : Proj) (a1 : Proj) : Tb20.run B20 [enc a0, enc a1] (Bool) = (t_laws_eqProjection a0 a1).opt := by kernel_rfl
noncomputable def F_laws_eqProjection : Proj → Proj → Bool := fun a0 a1 => (t_laws_eqProjection a0 a1).get
theorem u_laws_eqProjection (a0 : Proj) (a1 : Proj) : (t_laws_eqProjection a0 a1).opt = some (F_laws_eqProjection a0 a1) := Tr.tot_get (by kernel_rfl)
noncomputable def E_laws_eqProjection : Ent Tryd.prog := .of2 Tb20 B20 (fun _ _ => true) F_laws_eqProjection fun a0 a1 _ => (r_laws_eqProjection a0 a1).trans (u_laws_eqProjection a0 a1)
end
end Go.Proofs.YtegdoadciojpaaaDoor.Ev
