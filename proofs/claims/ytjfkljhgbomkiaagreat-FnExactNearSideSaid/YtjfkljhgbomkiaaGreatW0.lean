import Derived.Test.YtjfkljhgbomkiaaGreatEv8
import Derived.Test.YtjfkljhgbomkiaaGreatChecked
import Derived.KernelRfl
namespace Go.Proofs.YtjfkljhgbomkiaaGreat.Ev
open Go Go.RowKit
set_option maxRecDepth 100000
set_option linter.unusedVariables false
section
theorem mix : Tryz.prog.follows .mixedOrders = true := by kernel_rfl
noncomputable def Y2 : TyE Tryz.prog := ⟨2, 1, (.int .i64), [.i64 ⟨0, rfl⟩], false, by kernel_rfl, by kernel_rfl, by kernel_rfl, by kernel_rfl, by kernel_rfl, by kernel_rfl⟩
noncomputable def Y23 : TyE Tryz.prog := ⟨23, 2, (.struct [(0, 2, 1), (1, 2, 1)]), [.i64 ⟨0, rfl⟩, .i64 ⟨0, rfl⟩], true, by kernel_rfl, by kernel_rfl, by kernel_rfl, by kernel_rfl, by kernel_rfl, by kernel_rfl⟩
noncomputable def Y30 : TyE Tryz.prog := ⟨30, 2, (.struct [(0, 2, 1), (1, 2, 1)]), [.i64 ⟨0, rfl⟩, .i64 ⟨0, rfl⟩], true, by kernel_rfl, by kernel_rfl, by kernel_rfl, by kernel_rfl, by kernel_rfl, by kernel_rfl⟩
noncomputable def B16 : Bod Tryz.prog := ⟨16, Tryz.f16, Tryz.f16.body.getD .skip, Tryz.func16, by kernel_rfl, by kernel_rfl, Loops.no _ _⟩
noncomputable def Tb16 : Tb Tryz.prog := { T := [Y2, Y23, Y30], mix := mix, Es := [], Bs := [], d := 1 }
noncomputable def t_laws_toPoint (a0 : Point) : Tr (Point) :=
  .leaf a0
theorem r_laws_toPoint (a0 : Point) : Tb16.run B16 [enc a0] (Point) = (t_laws_toPoint a0).opt := by kernel_rfl
noncomputable def F_laws_toPoint : Point → Point := fun a0 => (t_laws_toPoint a0).get
theorem u_laws_toPoint (a0 : Point) : (t_laws_toPoint a0).opt = some (F_laws_toPoint a0) := Tr.tot_get (by kernel_rfl)
noncomputable def E_laws_toPoint : Ent Tryz.prog := .of1 Tb16 B16 (fun _ => true) F_laws_toPoint fun a0 _ => (r_laws_toPoint a0).trans (u_laws_toPoint a0)
noncomputable def Y56 : TyE Tryz.prog := ⟨56, 5, (.struct [(0, 2, 1), (1, 2, 1), (2, 2, 1), (3, 2, 1), (4, 2, 1)]), [.i64 ⟨0, rfl⟩, .i64 ⟨0, rfl⟩, .i64 ⟨0, rfl⟩, .i64 ⟨0, rfl⟩, .i64 ⟨0, rfl⟩], true, by kernel_rfl, by kernel_rfl, by kernel_rfl, by kernel_rfl, by kernel_rfl, by kernel_rfl⟩
noncomputable def Y58 : TyE Tryz.prog := ⟨58, 5, (.struct [(0, 2, 1), (1, 2, 1), (2, 2, 1), (3, 2, 1), (4, 2, 1)]), [.i64 ⟨0, rfl⟩, .i64 ⟨0, rfl⟩, .i64 ⟨0, rfl⟩, .i64 ⟨0, rfl⟩, .i64 ⟨0, rfl⟩], true, by kernel_rfl, by kernel_rfl, by kernel_rfl, by kernel_rfl, by kernel_rfl, by kernel_rfl⟩
noncomputable def B43 : Bod Tryz.prog := ⟨43, Tryz.f43, Tryz.f43.body.getD .skip, Tryz.func43, by kernel_rfl, by kernel_rfl, Loops.no _ _⟩
noncomputable def Tb43 : Tb Tryz.prog := { T := [Y2, Y56, Y58], mix := mix, Es := [], Bs := [], d := 1 }
noncomputable def t_laws_toProjection (a0 : Proj) : Tr (Proj) :=
  .leaf a0
theorem r_laws_toProjection (a0 : Proj) : Tb43.run B43 [enc a0] (Proj) = (t_laws_toProjection a0).opt := by kernel_rfl
noncomputable def F_laws_toProjection : Proj → Proj := fun a0 => (t_laws_toProjection a0).get
theorem u_laws_toProjection (a0 : Proj) : (t_laws_toProjection a0).opt = some (F_laws_toProjection a0) := Tr.tot_get (by kernel_rfl)
noncomputable def E_laws_toProjection : Ent Tryz.prog := .of1 Tb43 B43 (fun _ => true) F_laws_toProjection fun a0 _ => (r_laws_toProjection a0).trans (u_laws_toProjection a0)
noncomputable def B98 : Bod Tryz.prog := ⟨98, Tryz.f98, Tryz.f98.body.getD .skip, Tryz.func98, by kernel_rfl, by kernel_rfl, Loops.no _ _⟩
noncomputable def Tb98 : Tb Tryz.prog := { T := [], mix := mix, Es := [], Bs := [], d := 1 }
noncomputable def t_spec_l00In (a0 : I64) (a1 : I64) (a2 : I64) : Tr (Bool) :=
  .br (decide (a0.val ≥ a1.val)) (.leaf (decide (a0.val ≤ a2.val))) (.leaf false)
theorem r_spec_l00In (a0 : I64) (a1 : I64) (a2 : I64) : Tb98.run B98 [enc a0, enc a1, enc a2] (Bool) = (t_spec_l00In a0 a1 a2).opt := by kernel_rfl
noncomputable def F_spec_l00In : I64 → I64 → I64 → Bool := fun a0 a1 a2 => (t_spec_l00In a0 a1 a2).get
theorem u_spec_l00In (a0 : I64) (a1 : I64) (a2 : I64) : (t_spec_l00In a0 a1 a2).opt = some (F_spec_l00In a0 a1 a2) := Tr.tot_get (by kernel_rfl)
noncomputable def E_spec_l00In : Ent Tryz.prog := .of3 Tb98 B98 (fun _ _ _ => true) F_spec_l00In fun a0 a1 a2 _ => (r_spec_l00In a0 a1 a2).trans (u_spec_l00In a0 a1 a2)
noncomputable def B45 : Bod Tryz.prog := ⟨45, Tryz.f45, Tryz.f45.body.getD .skip, Tryz.func45, by kernel_rfl, by kernel_rfl, Loops.no _ _⟩
noncomputable def Tb45 : Tb Tryz.prog := { T := [Y2, Y30], mix := mix, Es := [E_spec_l00In], Bs := [], d := 1 }
noncomputable def t_spec_l11Ok (a0 : Point) : Tr (Bool) :=
  .br (F_spec_l00In a0.lat ⟨(-900000000), rfl⟩ ⟨900000000, rfl⟩) (.leaf (F_spec_l00In a0.lon ⟨(-1799999999), rfl⟩ ⟨1800000000, rfl⟩)) (.leaf false)
theorem r_spec_l11Ok (a0 : Point) : Tb45.run B45 [enc a0] (Bool) = (t_spec_l11Ok a0).opt := by kernel_rfl
noncomputable def F_spec_l11Ok : Point → Bool := fun a0 => (t_spec_l11Ok a0).get
theorem u_spec_l11Ok (a0 : Point) : (t_spec_l11Ok a0).opt = some (F_spec_l11Ok a0) := Tr.tot_get (by kernel_rfl)
noncomputable def E_spec_l11Ok : Ent Tryz.prog := .of1 Tb45 B45 (fun _ => true) F_spec_l11Ok fun a0 _ => (r_spec_l11Ok a0).trans (u_spec_l11Ok a0)
noncomputable def B99 : Bod Tryz.prog := ⟨99, Tryz.f99, Tryz.f99.body.getD .skip, Tryz.func99, by kernel_rfl, by kernel_rfl, Loops.no _ _⟩
noncomputable def Tb99 : Tb Tryz.prog := { T := [], mix := mix, Es := [], Bs := [], d := 1 }
noncomputable def t_impl_within (a0 : I64) (a1 : I64) (a2 : I64) : Tr (Bool) :=
  .br (decide (a0.val ≥ a1.val)) (.leaf (decide (a0.val ≤ a2.val))) (.leaf false)
theorem r_impl_within (a0 : I64) (a1 : I64) (a2 : I64) : Tb99.run B99 [enc a0, enc a1, enc a2] (Bool) = (t_impl_within a0 a1 a2).opt := by kernel_rfl
noncomputable def F_impl_within : I64 → I64 → I64 → Bool := fun a0 a1 a2 => (t_impl_within a0 a1 a2).get
theorem u_impl_within (a0 : I64) (a1 : I64) (a2 : I64) : (t_impl_within a0 a1 a2).opt = some (F_impl_within a0 a1 a2) := Tr.tot_get (by kernel_rfl)
noncomputable def E_impl_within : Ent Tryz.prog := .of3 Tb99 B99 (fun _ _ _ => true) F_impl_within fun a0 a1 a2 _ => (r_impl_within a0 a1 a2).trans (u_impl_within a0 a1 a2)
noncomputable def B47 : Bod Tryz.prog := ⟨47, Tryz.f47, Tryz.f47.body.getD .skip, Tryz.func47, by kernel_rfl, by kernel_rfl, Loops.no _ _⟩
noncomputable def Tb47 : Tb Tryz.prog := { T := [Y2, Y30], mix := mix, Es := [E_impl_within], Bs := [], d := 1 }
noncomputable def t_impl_ValidPoint (a0 : Point) : Tr (Bool) :=
  .br (F_impl_within a0.lat ⟨(-900000000), rfl⟩ ⟨900000000, rfl⟩) (.br (decide (a0.lon.val > (-1800000000))) (.leaf (decide (a0.lon.val ≤ 1800000000))) (.leaf false)) (.leaf false)
theorem r_impl_ValidPoint (a0 : Point) : Tb47.run B47 [enc a0] (Bool) = (t_impl_ValidPoint a0).opt := by kernel_rfl
noncomputable def F_impl_ValidPoint : Point → Bool := fun a0 => (t_impl_ValidPoint a0).get
theorem u_impl_ValidPoint (a0 : Point) : (t_impl_ValidPoint a0).opt = some (F_impl_ValidPoint a0) := Tr.tot_get (by kernel_rfl)
noncomputable def E_impl_ValidPoint : Ent Tryz.prog := .of1 Tb47 B47 (fun _ => true) F_impl_ValidPoint fun a0 _ => (r_impl_ValidPoint a0).trans (u_impl_ValidPoint a0)
noncomputable def B225 : Bod Tryz.prog := ⟨225, Tryz.f225, Tryz.f225.body.getD .skip, Tryz.func225, by kernel_rfl, by kernel_rfl, Loops.no _ _⟩
noncomputable def Tb225 : Tb Tryz.prog := { T := [], mix := mix, Es := [E_impl_within], Bs := [], d := 1 }
noncomputable def t_impl_isStandard (a0 : I64) : Tr (Bool) :=
  .leaf (F_impl_within a0 ⟨(-890000000), rfl⟩ ⟨890000000, rfl⟩)
theorem r_impl_isStandard (a0 : I64) : Tb225.run B225 [enc a0] (Bool) = (t_impl_isStandard a0).opt := by kernel_rfl
noncomputable def F_impl_isStandard : I64 → Bool := fun a0 => (t_impl_isStandard a0).get
theorem u_impl_isStandard (a0 : I64) : (t_impl_isStandard a0).opt = some (F_impl_isStandard a0) := Tr.tot_get (by kernel_rfl)
noncomputable def E_impl_isStandard : Ent Tryz.prog := .of1 Tb225 B225 (fun _ => true) F_impl_isStandard fun a0 _ => (r_impl_isStandard a0).trans (u_impl_isStandard a0)
noncomputable def B189 : Bod Tryz.prog := ⟨189, Tryz.f189, Tryz.f189.body.getD .skip, Tryz.func189, by kernel_rfl, by kernel_rfl, Loops.no _ _⟩
noncomputable def Tb189 : Tb Tryz.prog := { T := [], mix := mix, Es := [E_impl_within], Bs := [], d := 1 }
noncomputable def t_impl_isAzimuthal (a0 : I64) : Tr (Bool) :=
  .leaf (F_impl_within a0 ⟨5, rfl⟩ ⟨9, rfl⟩)
theorem r_impl_isAzimuthal (a0 : I64) : Tb189.run B189 [enc a0] (Bool) = (t_impl_isAzimuthal a0).opt := by kernel_rfl
noncomputable def F_impl_isAzimuthal : I64 → Bool := fun a0 => (t_impl_isAzimuthal a0).get
theorem u_impl_isAzimuthal (a0 : I64) : (t_impl_isAzimuthal a0).opt = some (F_impl_isAzimuthal a0) := Tr.tot_get (by kernel_rfl)
noncomputable def E_impl_isAzimuthal : Ent Tryz.prog := .of1 Tb189 B189 (fun _ => true) F_impl_isAzimuthal fun a0 _ => (r_impl_isAzimuthal a0).trans (u_impl_isAzimuthal a0)
noncomputable def B226 : Bod Tryz.prog := ⟨226, Tryz.f226, Tryz.f226.body.getD .skip, Tryz.func226, by kernel_rfl, by kernel_rfl, Loops.no _ _⟩
noncomputable def Tb226 : Tb Tryz.prog := { T := [], mix := mix, Es := [E_impl_within], Bs := [], d := 1 }
noncomputable def t_impl_isConic (a0 : I64) : Tr (Bool) :=
  .leaf (F_impl_within a0 ⟨10, rfl⟩ ⟨12, rfl⟩)
theorem r_impl_isConic (a0 : I64) : Tb226.run B226 [enc a0] (Bool) = (t_impl_isConic a0).opt := by kernel_rfl
noncomputable def F_impl_isConic : I64 → Bool := fun a0 => (t_impl_isConic a0).get
theorem u_impl_isConic (a0 : I64) : (t_impl_isConic a0).opt = some (F_impl_isConic a0) := Tr.tot_get (by kernel_rfl)
noncomputable def E_impl_isConic : Ent Tryz.prog := .of1 Tb226 B226 (fun _ => true) F_impl_isConic fun a0 _ => (r_impl_isConic a0).trans (u_impl_isConic a0)
noncomputable def B137 : Bod Tryz.prog := ⟨137, Tryz.f137, Tryz.f137.body.getD .skip, Tryz.func137, by kernel_rfl, by kernel_rfl, Loops.no _ _⟩
noncomputable def Tb137 : Tb Tryz.prog := { T := [], mix := mix, Es := [], Bs := [], d := 1 }
noncomputable def t_impl_abs (a0 : I64) : Tr (I64) :=
  .leaf (mx a0 (Rng.w .i64 (0 - a0.val)))
theorem r_impl_abs (a0 : I64) : Tb137.run B137 [enc a0] (I64) = (t_impl_abs a0).opt := by kernel_rfl
noncomputable def F_impl_abs : I64 → I64 := fun a0 => (t_impl_abs a0).get
theorem u_impl_abs (a0 : I64) : (t_impl_abs a0).opt = some (F_impl_abs a0) := Tr.tot_get (by kernel_rfl)
noncomputable def E_impl_abs : Ent Tryz.prog := .of1 Tb137 B137 (fun _ => true) F_impl_abs fun a0 _ => (r_impl_abs a0).trans (u_impl_abs a0)
noncomputable def B188 : Bod Tryz.prog := ⟨188, Tryz.f188, Tryz.f188.body.getD .skip, Tryz.func188, by kernel_rfl, by kernel_rfl, Loops.no _ _⟩
noncomputable def Tb188 : Tb Tryz.prog := { T := [Y2, Y30, Y58], mix := mix, Es := [E_impl_ValidPoint, E_impl_within, E_impl_abs, E_impl_isAzimuthal, E_impl_isStandard, E_impl_isConic], Bs := [], d := 1 }
noncomputable def t_impl_ValidProjection (a0 : Proj) : Tr (Bool) :=
  .br (!(F_impl_within a0.kind ⟨1, rfl⟩ ⟨16, rfl⟩)) (.leaf false) (.br (!(F_impl_ValidPoint ⟨a0.lat0, a0.lon0⟩)) (.leaf false) (.br (!(F_impl_isStandard a0.lat1)) (.leaf false) (.br (!(F_impl_isStandard a0.lat2)) (.leaf false) (.br (F_impl_isAzimuthal a0.kind) (.br (F_impl_isConic a0.kind) (.br (!(F_impl_isConic a0.kind)) (.br (a0.lat2.val != 0) (.leaf false) (.br (!(F_impl_isConic a0.kind)) (.leaf true) (.leaf (decide ((F_impl_abs (Rng.w .i64 (a0.lat1.val + a0.lat2.val))).val ≥ 10000000))))) (.br (!(F_impl_isConic a0.kind)) (.leaf true) (.leaf (decide ((F_impl_abs (Rng.w .i64 (a0.lat1.val + a0.lat2.val))).val ≥ 10000000))))) (.br (a0.kind.val == 1) (.br (!(F_impl_isConic a0.kind)) (.br (a0.lat2.val != 0) (.leaf false) (.br (!(F_impl_isConic a0.kind)) (.leaf true) (.leaf (decide ((F_impl_abs (Rng.w .i64 (a0.lat1.val + a0.lat2.val))).val ≥ 10000000))))) (.br (!(F_impl_isConic a0.kind)) (.leaf true) (.leaf (decide ((F_impl_abs (Rng.w .i64 (a0.lat1.val + a0.lat2.val))).val ≥ 10000000))))) (.br (!(a0.kind.val == 3)) (.br (a0.lat1.val != 0) (.leaf false) (.br (!(F_impl_isConic a0.kind)) (.br (a0.lat2.val != 0) (.leaf false) (.br (!(F_impl_isConic a0.kind)) (.leaf true) (.leaf (decide ((F_impl_abs (Rng.w .i64 (a0.lat1.val + a0.lat2.val))).val ≥ 10000000))))) (.br (!(F_impl_isConic a0.kind)) (.leaf true) (.leaf (decide ((F_impl_abs (Rng.w .i64 (a0.lat1.val + a0.lat2.val))).val ≥ 10000000)))))) (.br (!(F_impl_isConic a0.kind)) (.br (a0.lat2.val != 0) (.leaf false) (.br (!(F_impl_isConic a0.kind)) (.leaf true) (.leaf (decide ((F_impl_abs (Rng.w .i64 (a0.lat1.val + a0.lat2.val))).val ≥ 10000000))))) (.br (!(F_impl_isConic a0.kind)) (.leaf true) (.leaf (decide ((F_impl_abs (Rng.w .i64 (a0.lat1.val + a0.lat2.val))).val ≥ 10000000)))))))) (.br (F_impl_isConic a0.kind) (.br (F_impl_isConic a0.kind) (.br (!(F_impl_isConic a0.kind)) (.br (a0.lat2.val != 0) (.leaf false) (.br (!(F_impl_isConic a0.kind)) (.leaf true) (.leaf (decide ((F_impl_abs (Rng.w .i64 (a0.lat1.val + a0.lat2.val))).val ≥ 10000000))))) (.br (!(F_impl_isConic a0.kind)) (.leaf true) (.leaf (decide ((F_impl_abs (Rng.w .i64 (a0.lat1.val + a0.lat2.val))).val ≥ 10000000))))) (.br (a0.kind.val == 1) (.br (!(F_impl_isConic a0.kind)) (.br (a0.lat2.val != 0) (.leaf false) (.br (!(F_impl_isConic a0.kind)) (.leaf true) (.leaf (decide ((F_impl_abs (Rng.w .i64 (a0.lat1.val + a0.lat2.val))).val ≥ 10000000))))) (.br (!(F_impl_isConic a0.kind)) (.leaf true) (.leaf (decide ((F_impl_abs (Rng.w .i64 (a0.lat1.val + a0.lat2.val))).val ≥ 10000000))))) (.br (!(a0.kind.val == 3)) (.br (a0.lat1.val != 0) (.leaf false) (.br (!(F_impl_isConic a0.kind)) (.br (a0.lat2.val != 0) (.leaf false) (.br (!(F_impl_isConic a0.kind)) (.leaf true) (.leaf (decide ((F_impl_abs (Rng.w .i64 (a0.lat1.val + a0.lat2.val))).val ≥ 10000000))))) (.br (!(F_impl_isConic a0.kind)) (.leaf true) (.leaf (decide ((F_impl_abs (Rng.w .i64 (a0.lat1.val + a0.lat2.val))).val ≥ 10000000)))))) (.br (!(F_impl_isConic a0.kind)) (.br (a0.lat2.val != 0) (.leaf false) (.br (!(F_impl_isConic a0.kind)) (.leaf true) (.leaf (decide ((F_impl_abs (Rng.w .i64 (a0.lat1.val + a0.lat2.val))).val ≥ 10000000))))) (.br (!(F_impl_isConic a0.kind)) (.leaf true) (.leaf (decide ((F_impl_abs (Rng.w .i64 (a0.lat1.val + a0.lat2.val))).val ≥ 10000000)))))))) (.br (F_impl_isConic a0.kind) (.br (!(a0.kind.val == 16)) (.br (a0.lat0.val != 0) (.leaf false) (.br (!(F_impl_isConic a0.kind)) (.br (a0.lat2.val != 0) (.leaf false) (.br (!(F_impl_isConic a0.kind)) (.leaf true) (.leaf (decide ((F_impl_abs (Rng.w .i64 (a0.lat1.val + a0.lat2.val))).val ≥ 10000000))))) (.br (!(F_impl_isConic a0.kind)) (.leaf true) (.leaf (decide ((F_impl_abs (Rng.w .i64 (a0.lat1.val + a0.lat2.val))).val ≥ 10000000)))))) (.br (!(F_impl_isConic a0.kind)) (.br (a0.lat2.val != 0) (.leaf false) (.br (!(F_impl_isConic a0.kind)) (.leaf true) (.leaf (decide ((F_impl_abs (Rng.w .i64 (a0.lat1.val + a0.lat2.val))).val ≥ 10000000))))) (.br (!(F_impl_isConic a0.kind)) (.leaf true) (.leaf (decide ((F_impl_abs (Rng.w .i64 (a0.lat1.val + a0.lat2.val))).val ≥ 10000000)))))) (.br (a0.kind.val == 1) (.br (!(a0.kind.val == 16)) (.br (a0.lat0.val != 0) (.leaf false) (.br (!(F_impl_isConic a0.kind)) (.br (a0.lat2.val != 0) (.leaf false) (.br (!(F_impl_isConic a0.kind)) (.leaf true) (.leaf (decide ((F_impl_abs (Rng.w .i64 (a0.lat1.val + a0.lat2.val))).val ≥ 10000000))))) (.br (!(F_impl_isConic a0.kind)) (.leaf true) (.leaf (decide ((F_impl_abs (Rng.w .i64 (a0.lat1.val + a0.lat2.val))).val ≥ 10000000)))))) (.br (!(F_impl_isConic a0.kind)) (.br (a0.lat2.val != 0) (.leaf false) (.br (!(F_impl_isConic a0.kind)) (.leaf true) (.leaf (decide ((F_impl_abs (Rng.w .i64 (a0.lat1.val + a0.lat2.val))).val ≥ 10000000))))) (.br (!(F_impl_isConic a0.kind)) (.leaf true) (.leaf (decide ((F_impl_abs (Rng.w .i64 (a0.lat1.val + a0.lat2.val))).val ≥ 10000000)))))) (.br (!(a0.kind.val == 16)) (.br (a0.lat0.val != 0) (.leaf false) (.br (!(a0.kind.val == 3)) (.br (a0.lat1.val != 0) (.leaf false) (.br (!(F_impl_isConic a0.kind)) (.br (a0.lat2.val != 0) (.leaf false) (.br (!(F_impl_isConic a0.kind)) (.leaf true) (.leaf (decide ((F_impl_abs (Rng.w .i64 (a0.lat1.val + a0.lat2.val))).val ≥ 10000000))))) (.br (!(F_impl_isConic a0.kind)) (.leaf true) (.leaf (decide ((F_impl_abs (Rng.w .i64 (a0.lat1.val + a0.lat2.val))).val ≥ 10000000)))))) (.br (!(F_impl_isConic a0.kind)) (.br (a0.lat2.val != 0) (.leaf false) (.br (!(F_impl_isConic a0.kind)) (.leaf true) (.leaf (decide ((F_impl_abs (Rng.w .i64 (a0.lat1.val + a0.lat2.val))).val ≥ 10000000))))) (.br (!(F_impl_isConic a0.kind)) (.leaf true) (.leaf (decide ((F_impl_abs (Rng.w .i64 (a0.lat1.val + a0.lat2.val))).val ≥ 10000000))))))) (.br (!(a0.kind.val == 3)) (.br (a0.lat1.val != 0) (.leaf false) (.br (!(F_impl_isConic a0.kind)) (.br (a0.lat2.val != 0) (.leaf false) (.br (!(F_impl_isConic a0.kind)) (.leaf true) (.leaf (decide ((F_impl_abs (Rng.w .i64 (a0.lat1.val + a0.lat2.val))).val ≥ 10000000))))) (.br (!(F_impl_isConic a0.kind)) (.leaf true) (.leaf (decide ((F_impl_abs (Rng.w .i64 (a0.lat1.val + a0.lat2.val))).val ≥ 10000000)))))) (.br (!(F_impl_isConic a0.kind)) (.br (a0.lat2.val != 0) (.leaf false) (.br (!(F_impl_isConic a0.kind)) (.leaf true) (.leaf (decide ((F_impl_abs (Rng.w .i64 (a0.lat1.val + a0.lat2.val))).val ≥ 10000000))))) (.br (!(F_impl_isConic a0.kind)) (.leaf true) (.leaf (decide ((F_impl_abs (Rng.w .i64 (a0.lat1.val + a0.lat2.val))).val ≥ 10000000))))))))))))))
theorem r_impl_ValidProjection (a0 : Proj) : Tb188.run B188 [enc a0] (Bool) = (t_impl_ValidProjection a0).opt := by kernel_rfl
noncomputable def F_impl_ValidProjection : Proj → Bool := fun a0 => (t_impl_ValidProjection a0).get
theorem u_impl_ValidProjection (a0 : Proj) : (t_impl_ValidProjection a0).opt = some (F_impl_ValidProjection a0) := Tr.tot_get (by kernel_rfl)
noncomputable def E_impl_ValidProjection : Ent Tryz.prog := .of1 Tb188 B188 (fun _ => true) F_impl_ValidProjection fun a0 _ => (r_impl_ValidProjection a0).trans (u_impl_ValidProjection a0)
noncomputable def B224 : Bod Tryz.prog := ⟨224, Tryz.f224, Tryz.f224.body.getD .skip, Tryz.func224, by kernel_rfl, by kernel_rfl, Loops.no _ _⟩
noncomputable def Tb224 : Tb Tryz.prog := { T := [], mix := mix, Es := [E_spec_l00In], Bs := [], d := 1 }
noncomputable def t_spec_l17Standard (a0 : I64) : Tr (Bool) :=
  .leaf (F_spec_l00In a0 ⟨(-890000000), rfl⟩ ⟨890000000, rfl⟩)
theorem r_spec_l17Standard (a0 : I64) : Tb224.run B224 [enc a0] (Bool) = (t_spec_l17Standard a0).opt := by kernel_rfl
noncomputable def F_spec_l17Standard : I64 → Bool := fun a0 => (t_spec_l17Standard a0).get
theorem u_spec_l17Standard (a0 : I64) : (t_spec_l17Standard a0).opt = some (F_spec_l17Standard a0) := Tr.tot_get (by kernel_rfl)
noncomputable def E_spec_l17Standard : Ent Tryz.prog := .of1 Tb224 B224 (fun _ => true) F_spec_l17Standard fun a0 _ => (r_spec_l17Standard a0).trans (u_spec_l17Standard a0)
noncomputable def B187 : Bod Tryz.prog := ⟨187, Tryz.f187, Tryz.f187.body.getD .skip, Tryz.func187, by kernel_rfl, by kernel_rfl, Loops.no _ _⟩
noncomputable def Tb187 : Tb Tryz.prog := { T := [Y2, Y30, Y58], mix := mix, Es := [E_spec_l11Ok, E_spec_l17Standard], Bs := [], d := 1 }
noncomputable def t_spec_l17Ok (a0 : Proj) : Tr (Bool) :=
  .br (!(F_spec_l11Ok ⟨a0.lat0, a0.lon0⟩)) (.leaf false) (.br (!(F_spec_l17Standard a0.lat1)) (.leaf false) (.br (!(F_spec_l17Standard a0.lat2)) (.leaf false) (.br (a0.kind.val == 1) (.br (a0.lat0.val == 0) (.leaf (a0.lat2.val == 0)) (.leaf false)) (.br (a0.kind.val == 3) (.br (a0.lat0.val == 0) (.leaf (a0.lat2.val == 0)) (.leaf false)) (.br (a0.kind.val == 2) (.br (a0.lat0.val == 0) (.br (a0.lat1.val == 0) (.leaf (a0.lat2.val == 0)) (.leaf false)) (.leaf false)) (.br (a0.kind.val == 4) (.br (a0.lat0.val == 0) (.br (a0.lat1.val == 0) (.leaf (a0.lat2.val == 0)) (.leaf false)) (.leaf false)) (.br (a0.kind.val == 13) (.br (a0.lat0.val == 0) (.br (a0.lat1.val == 0) (.leaf (a0.lat2.val == 0)) (.leaf false)) (.leaf false)) (.br (a0.kind.val == 14) (.br (a0.lat0.val == 0) (.br (a0.lat1.val == 0) (.leaf (a0.lat2.val == 0)) (.leaf false)) (.leaf false)) (.br (a0.kind.val == 15) (.br (a0.lat0.val == 0) (.br (a0.lat1.val == 0) (.leaf (a0.lat2.val == 0)) (.leaf false)) (.leaf false)) (.br (a0.kind.val == 5) (.br (a0.lat1.val == 0) (.leaf (a0.lat2.val == 0)) (.leaf false)) (.br (a0.kind.val == 6) (.br (a0.lat1.val == 0) (.leaf (a0.lat2.val == 0)) (.leaf false)) (.br (a0.kind.val == 7) (.br (a0.lat1.val == 0) (.leaf (a0.lat2.val == 0)) (.leaf false)) (.br (a0.kind.val == 8) (.br (a0.lat1.val == 0) (.leaf (a0.lat2.val == 0)) (.leaf false)) (.br (a0.kind.val == 9) (.br (a0.lat1.val == 0) (.leaf (a0.lat2.val == 0)) (.leaf false)) (.br (a0.kind.val == 16) (.br (a0.lat1.val == 0) (.leaf (a0.lat2.val == 0)) (.leaf false)) (.br (a0.kind.val == 10) (let c4 := (Rng.w .i64 (a0.lat1.val + a0.lat2.val)); .br (decide (c4.val ≥ 10000000)) (.leaf true) (.leaf (decide (c4.val ≤ (-10000000))))) (.br (a0.kind.val == 11) (let c7 := (Rng.w .i64 (a0.lat1.val + a0.lat2.val)); .br (decide (c7.val ≥ 10000000)) (.leaf true) (.leaf (decide (c7.val ≤ (-10000000))))) (.br (a0.kind.val == 12) (let c10 := (Rng.w .i64 (a0.lat1.val + a0.lat2.val)); .br (decide (c10.val ≥ 10000000)) (.leaf true) (.leaf (decide (c10.val ≤ (-10000000))))) (.leaf false)))))))))))))))))))
theorem r_spec_l17Ok (a0 : Proj) : Tb187.run B187 [enc a0] (Bool) = (t_spec_l17Ok a0).opt := by kernel_rfl
noncomputable def F_spec_l17Ok : Proj → Bool := fun a0 => (t_spec_l17Ok a0).get
theorem u_spec_l17Ok (a0 : Proj) : (t_spec_l17Ok a0).opt = some (F_spec_l17Ok a0) := Tr.tot_get (by kernel_rfl)
noncomputable def E_spec_l17Ok : Ent Tryz.prog := .of1 Tb187 B187 (fun _ => true) F_spec_l17Ok fun a0 _ => (r_spec_l17Ok a0).trans (u_spec_l17Ok a0)
noncomputable def B148 : Bod Tryz.prog := ⟨148, Tryz.f148, Tryz.f148.body.getD .skip, Tryz.func148, by kernel_rfl, by kernel_rfl, Loops.no _ _⟩
noncomputable def Tb148 : Tb Tryz.prog := { T := [Y58], mix := mix, Es := [E_spec_l17Ok], Bs := [], d := 1 }
noncomputable def t_spec_ValidProjection (a0 : Proj) : Tr (Bool) :=
  .leaf (F_spec_l17Ok a0)
theorem r_spec_ValidProjection (a0 : Proj) : Tb148.run B148 [enc a0] (Bool) = (t_spec_ValidProjection a0).opt := by kernel_rfl
noncomputable def F_spec_ValidProjection : Proj → Bool := fun a0 => (t_spec_ValidProjection a0).get
theorem u_spec_ValidProjection (a0 : Proj) : (t_spec_ValidProjection a0).opt = some (F_spec_ValidProjection a0) := Tr.tot_get (by kernel_rfl)
noncomputable def E_spec_ValidProjection : Ent Tryz.prog := .of1 Tb148 B148 (fun _ => true) F_spec_ValidProjection fun a0 _ => (r_spec_ValidProjection a0).trans (u_spec_ValidProjection a0)
end
end Go.Proofs.YtjfkljhgbomkiaaGreat.Ev
