/- The walk of the names of projections. -/
import Derived.Test.YtegdoadciojpaaaDoorEvC
import Derived.Test.YtegdoadciojpaaaDoorChecked
import Derived.KernelRfl
namespace Go.Proofs.YtegdoadciojpaaaDoor.Ev
open Go Go.RowKit
set_option maxRecDepth 100000
set_option linter.unusedVariables false
theorem mix : Tryd.prog.follows .mixedOrders = true := by kernel_rfl
noncomputable def Y2 : TyE Tryd.prog := ⟨2, 1, (.int .i64), [.i64 ⟨0, rfl⟩], false, by kernel_rfl, by kernel_rfl, by kernel_rfl, by kernel_rfl, by kernel_rfl, by kernel_rfl⟩
noncomputable def Y3 : TyE Tryd.prog := ⟨3, 1, (.int .i64), [.i64 ⟨0, rfl⟩], false, by kernel_rfl, by kernel_rfl, by kernel_rfl, by kernel_rfl, by kernel_rfl, by kernel_rfl⟩
noncomputable def Y9 : TyE Tryd.prog := ⟨9, 1, .str, [.str ByteArray.empty], false, by kernel_rfl, by kernel_rfl, by kernel_rfl, by kernel_rfl, by kernel_rfl, by kernel_rfl⟩
noncomputable def Y46 : TyE Tryd.prog := ⟨46, 1, (.slice 9 1), [.nils], false, by kernel_rfl, by kernel_rfl, by kernel_rfl, by kernel_rfl, by kernel_rfl, by kernel_rfl⟩
noncomputable def Y48 : TyE Tryd.prog := ⟨48, 17, (.array 17 9 1), [.str ByteArray.empty, .str ByteArray.empty, .str ByteArray.empty, .str ByteArray.empty, .str ByteArray.empty, .str ByteArray.empty, .str ByteArray.empty, .str ByteArray.empty, .str ByteArray.empty, .str ByteArray.empty, .str ByteArray.empty, .str ByteArray.empty, .str ByteArray.empty, .str ByteArray.empty, .str ByteArray.empty, .str ByteArray.empty, .str ByteArray.empty], false, by kernel_rfl, by kernel_rfl, by kernel_rfl, by kernel_rfl, by kernel_rfl, by kernel_rfl⟩
noncomputable def B23 : Bod Tryd.prog := ⟨23, Tryd.f23, Tryd.f23.body.getD .skip, Tryd.func23, by kernel_rfl, by kernel_rfl, Loops.no _ _⟩
noncomputable def Tb23 : Tb Tryd.prog := { T := [], mix := mix, Es := [], Bs := [], d := 1 }
noncomputable def F_within (a b c : I64) : Bool := bif decide (a.val ≥ b.val) then decide (a.val ≤ c.val) else false
theorem r_within (a b c : I64) : Tb23.run B23 [enc a, enc b, enc c] Bool = some (F_within a b c) := by
  have h : Tb23.run B23 [enc a, enc b, enc c] Bool = bif decide (a.val ≥ b.val) then some (decide (a.val ≤ c.val)) else some false := by kernel_rfl
  rw [h]; unfold F_within; cases decide (a.val ≥ b.val) <;> rfl
noncomputable def E_within : Ent Tryd.prog := .of3 Tb23 B23 (fun _ _ _ => true) F_within fun a b c _ => r_within a b c
noncomputable def E_within_out : Ent Tryd.prog := .of3 Tb23 B23 (fun a b c => !(F_within a b c)) (fun _ _ _ => false) fun a b c h => by
  rw [r_within]; simpa using h
noncomputable def B21 : Bod Tryd.prog := ⟨21, Tryd.f21, Tryd.f21.body.getD .skip, Tryd.func21, by kernel_rfl, by kernel_rfl, Loops.no _ _⟩
noncomputable def Tb21 : Tb Tryd.prog := { T := [], mix := mix, Es := [], Bs := [], d := 1 }
noncomputable def F_l00In (a b c : I64) : Bool := bif decide (a.val ≥ b.val) then decide (a.val ≤ c.val) else false
theorem r_l00In (a b c : I64) : Tb21.run B21 [enc a, enc b, enc c] Bool = some (F_l00In a b c) := by
  have h : Tb21.run B21 [enc a, enc b, enc c] Bool = bif decide (a.val ≥ b.val) then some (decide (a.val ≤ c.val)) else some false := by kernel_rfl
  rw [h]; unfold F_l00In; cases decide (a.val ≥ b.val) <;> rfl
noncomputable def E_l00In : Ent Tryd.prog := .of3 Tb21 B21 (fun _ _ _ => true) F_l00In fun a b c _ => r_l00In a b c
noncomputable def E_l00In_out : Ent Tryd.prog := .of3 Tb21 B21 (fun a b c => !(F_l00In a b c)) (fun _ _ _ => false) fun a b c h => by
  rw [r_l00In]; simpa using h
noncomputable def nameOf (k : I64) : ByteArray := bif F_within k ⟨1, rfl⟩ ⟨16, rfl⟩ then names.getD k.val.toNat ByteArray.empty else ByteArray.empty
theorem in_eq (k : I64) : F_l00In k ⟨1, rfl⟩ ⟨16, rfl⟩ = F_within k ⟨1, rfl⟩ ⟨16, rfl⟩ := rfl
theorem in_cases {k : I64} (h : F_within k ⟨1, rfl⟩ ⟨16, rfl⟩ = true) : k = ⟨1, rfl⟩ ∨ k = ⟨2, rfl⟩ ∨ k = ⟨3, rfl⟩ ∨ k = ⟨4, rfl⟩ ∨ k = ⟨5, rfl⟩ ∨ k = ⟨6, rfl⟩ ∨ k = ⟨7, rfl⟩ ∨ k = ⟨8, rfl⟩ ∨ k = ⟨9, rfl⟩ ∨ k = ⟨10, rfl⟩ ∨ k = ⟨11, rfl⟩ ∨ k = ⟨12, rfl⟩ ∨ k = ⟨13, rfl⟩ ∨ k = ⟨14, rfl⟩ ∨ k = ⟨15, rfl⟩ ∨ k = ⟨16, rfl⟩ := by
  have hk : 1 ≤ k.val ∧ k.val ≤ 16 := by
    unfold F_within at h
    by_cases h1 : k.val ≥ 1
    · simp only [show decide (k.val ≥ 1) = true by simpa using h1, cond_true, decide_eq_true_eq] at h; exact ⟨h1, h⟩
    · simp only [show decide (k.val ≥ 1) = false by simpa using h1, cond_false] at h; cases h
  have e : ∀ n : I64, k.val = n.val → k = n := fun n h => Rng.ext h
  have : k.val = 1 ∨ k.val = 2 ∨ k.val = 3 ∨ k.val = 4 ∨ k.val = 5 ∨ k.val = 6 ∨ k.val = 7 ∨ k.val = 8 ∨ k.val = 9 ∨ k.val = 10 ∨ k.val = 11 ∨ k.val = 12 ∨ k.val = 13 ∨ k.val = 14 ∨ k.val = 15 ∨ k.val = 16 := by omega
  rcases this with h | h | h | h | h | h | h | h | h | h | h | h | h | h | h | h
  · left; exact e ⟨1, rfl⟩ h
  · right; left; exact e ⟨2, rfl⟩ h
  · right; right; left; exact e ⟨3, rfl⟩ h
  · right; right; right; left; exact e ⟨4, rfl⟩ h
  · right; right; right; right; left; exact e ⟨5, rfl⟩ h
  · right; right; right; right; right; left; exact e ⟨6, rfl⟩ h
  · right; right; right; right; right; right; left; exact e ⟨7, rfl⟩ h
  · right; right; right; right; right; right; right; left; exact e ⟨8, rfl⟩ h
  · right; right; right; right; right; right; right; right; left; exact e ⟨9, rfl⟩ h
  · right; right; right; right; right; right; right; right; right; left; exact e ⟨10, rfl⟩ h
  · right; right; right; right; right; right; right; right; right; right; left; exact e ⟨11, rfl⟩ h
  · right; right; right; right; right; right; right; right; right; right; right; left; exact e ⟨12, rfl⟩ h
  · right; right; right; right; right; right; right; right; right; right; right; right; left; exact e ⟨13, rfl⟩ h
  · right; right; right; right; right; right; right; right; right; right; right; right; right; left; exact e ⟨14, rfl⟩ h
  · right; right; right; right; right; right; right; right; right; right; right; right; right; right; left; exact e ⟨15, rfl⟩ h
  · right; right; right; right; right; right; right; right; right; right; right; right; right; right; right; exact e ⟨16, rfl⟩ h
noncomputable def B9 : Bod Tryd.prog := ⟨9, Tryd.f9, Tryd.f9.body.getD .skip, Tryd.func9, by kernel_rfl, by kernel_rfl, Loops.no _ _⟩
noncomputable def B22 : Bod Tryd.prog := ⟨22, Tryd.f22, Tryd.f22.body.getD .skip, Tryd.func22, by kernel_rfl, by kernel_rfl, Loops.no _ _⟩
noncomputable def B8 : Bod Tryd.prog := ⟨8, Tryd.f8, Tryd.f8.body.getD .skip, Tryd.func8, by kernel_rfl, by kernel_rfl, Loops.no _ _⟩
noncomputable def B3 : Bod Tryd.prog := ⟨3, Tryd.f3, Tryd.f3.body.getD .skip, Tryd.func3, by kernel_rfl, by kernel_rfl, Loops.no _ _⟩
noncomputable def Tb9 : Tb Tryd.prog := { T := [Y2, Y9, Y48], mix := mix, Es := [E_within], Bs := [], d := 1 }
noncomputable def Tb9o : Tb Tryd.prog := { T := [Y2, Y9, Y48], mix := mix, Es := [E_within_out], Bs := [], d := 1 }
noncomputable def Tb8 : Tb Tryd.prog := { T := [Y2, Y3, Y9, Y46], mix := mix, Es := [E_l00In], Bs := [B22], d := 3 }
noncomputable def Tb8o : Tb Tryd.prog := { T := [Y2, Y3, Y9, Y46], mix := mix, Es := [E_l00In_out], Bs := [B22], d := 3 }
theorem c9_1 : Tb9.run B9 [enc (⟨1, rfl⟩ : I64)] ByteArray = some (nameOf ⟨1, rfl⟩) := by kernel_rfl
theorem c9_2 : Tb9.run B9 [enc (⟨2, rfl⟩ : I64)] ByteArray = some (nameOf ⟨2, rfl⟩) := by kernel_rfl
theorem c9_3 : Tb9.run B9 [enc (⟨3, rfl⟩ : I64)] ByteArray = some (nameOf ⟨3, rfl⟩) := by kernel_rfl
theorem c9_4 : Tb9.run B9 [enc (⟨4, rfl⟩ : I64)] ByteArray = some (nameOf ⟨4, rfl⟩) := by kernel_rfl
theorem c9_5 : Tb9.run B9 [enc (⟨5, rfl⟩ : I64)] ByteArray = some (nameOf ⟨5, rfl⟩) := by kernel_rfl
theorem c9_6 : Tb9.run B9 [enc (⟨6, rfl⟩ : I64)] ByteArray = some (nameOf ⟨6, rfl⟩) := by kernel_rfl
theorem c9_7 : Tb9.run B9 [enc (⟨7, rfl⟩ : I64)] ByteArray = some (nameOf ⟨7, rfl⟩) := by kernel_rfl
theorem c9_8 : Tb9.run B9 [enc (⟨8, rfl⟩ : I64)] ByteArray = some (nameOf ⟨8, rfl⟩) := by kernel_rfl
theorem c9_9 : Tb9.run B9 [enc (⟨9, rfl⟩ : I64)] ByteArray = some (nameOf ⟨9, rfl⟩) := by kernel_rfl
theorem c9_10 : Tb9.run B9 [enc (⟨10, rfl⟩ : I64)] ByteArray = some (nameOf ⟨10, rfl⟩) := by kernel_rfl
theorem c9_11 : Tb9.run B9 [enc (⟨11, rfl⟩ : I64)] ByteArray = some (nameOf ⟨11, rfl⟩) := by kernel_rfl
theorem c9_12 : Tb9.run B9 [enc (⟨12, rfl⟩ : I64)] ByteArray = some (nameOf ⟨12, rfl⟩) := by kernel_rfl
theorem c9_13 : Tb9.run B9 [enc (⟨13, rfl⟩ : I64)] ByteArray = some (nameOf ⟨13, rfl⟩) := by kernel_rfl
theorem c9_14 : Tb9.run B9 [enc (⟨14, rfl⟩ : I64)] ByteArray = some (nameOf ⟨14, rfl⟩) := by kernel_rfl
theorem c9_15 : Tb9.run B9 [enc (⟨15, rfl⟩ : I64)] ByteArray = some (nameOf ⟨15, rfl⟩) := by kernel_rfl
theorem c9_16 : Tb9.run B9 [enc (⟨16, rfl⟩ : I64)] ByteArray = some (nameOf ⟨16, rfl⟩) := by kernel_rfl
theorem out_9 (k : I64) : Tb9o.run B9 [enc k] ByteArray = bif !(F_within k ⟨1, rfl⟩ ⟨16, rfl⟩) then some ByteArray.empty else none := by kernel_rfl
noncomputable def E_impl_ProjectionName : Ent Tryd.prog := .any1 B9 nameOf fun k => by
  cases h : F_within k ⟨1, rfl⟩ ⟨16, rfl⟩
  · refine ⟨Tb9o, ?_⟩
    rw [out_9, h]
    unfold nameOf
    rw [h]; rfl
  · refine ⟨Tb9, ?_⟩
    rcases in_cases h with rfl | rfl | rfl | rfl | rfl | rfl | rfl | rfl | rfl | rfl | rfl | rfl | rfl | rfl | rfl | rfl
    · exact c9_1
    · exact c9_2
    · exact c9_3
    · exact c9_4
    · exact c9_5
    · exact c9_6
    · exact c9_7
    · exact c9_8
    · exact c9_9
    · exact c9_10
    · exact c9_11
    · exact c9_12
    · exact c9_13
    · exact c9_14
    · exact c9_15
    · exact c9_16
theorem c8_1 : Tb8.run B8 [enc (⟨1, rfl⟩ : I64)] ByteArray = some (nameOf ⟨1, rfl⟩) := by kernel_rfl
theorem c8_2 : Tb8.run B8 [enc (⟨2, rfl⟩ : I64)] ByteArray = some (nameOf ⟨2, rfl⟩) := by kernel_rfl
theorem c8_3 : Tb8.run B8 [enc (⟨3, rfl⟩ : I64)] ByteArray = some (nameOf ⟨3, rfl⟩) := by kernel_rfl
theorem c8_4 : Tb8.run B8 [enc (⟨4, rfl⟩ : I64)] ByteArray = some (nameOf ⟨4, rfl⟩) := by kernel_rfl
theorem c8_5 : Tb8.run B8 [enc (⟨5, rfl⟩ : I64)] ByteArray = some (nameOf ⟨5, rfl⟩) := by kernel_rfl
theorem c8_6 : Tb8.run B8 [enc (⟨6, rfl⟩ : I64)] ByteArray = some (nameOf ⟨6, rfl⟩) := by kernel_rfl
theorem c8_7 : Tb8.run B8 [enc (⟨7, rfl⟩ : I64)] ByteArray = some (nameOf ⟨7, rfl⟩) := by kernel_rfl
theorem c8_8 : Tb8.run B8 [enc (⟨8, rfl⟩ : I64)] ByteArray = some (nameOf ⟨8, rfl⟩) := by kernel_rfl
theorem c8_9 : Tb8.run B8 [enc (⟨9, rfl⟩ : I64)] ByteArray = some (nameOf ⟨9, rfl⟩) := by kernel_rfl
theorem c8_10 : Tb8.run B8 [enc (⟨10, rfl⟩ : I64)] ByteArray = some (nameOf ⟨10, rfl⟩) := by kernel_rfl
theorem c8_11 : Tb8.run B8 [enc (⟨11, rfl⟩ : I64)] ByteArray = some (nameOf ⟨11, rfl⟩) := by kernel_rfl
theorem c8_12 : Tb8.run B8 [enc (⟨12, rfl⟩ : I64)] ByteArray = some (nameOf ⟨12, rfl⟩) := by kernel_rfl
theorem c8_13 : Tb8.run B8 [enc (⟨13, rfl⟩ : I64)] ByteArray = some (nameOf ⟨13, rfl⟩) := by kernel_rfl
theorem c8_14 : Tb8.run B8 [enc (⟨14, rfl⟩ : I64)] ByteArray = some (nameOf ⟨14, rfl⟩) := by kernel_rfl
theorem c8_15 : Tb8.run B8 [enc (⟨15, rfl⟩ : I64)] ByteArray = some (nameOf ⟨15, rfl⟩) := by kernel_rfl
theorem c8_16 : Tb8.run B8 [enc (⟨16, rfl⟩ : I64)] ByteArray = some (nameOf ⟨16, rfl⟩) := by kernel_rfl
theorem out_8 (k : I64) : Tb8o.run B8 [enc k] ByteArray = bif !(F_l00In k ⟨1, rfl⟩ ⟨16, rfl⟩) then some ByteArray.empty else none := by kernel_rfl
noncomputable def E_spec_ProjectionName : Ent Tryd.prog := .any1 B8 nameOf fun k => by
  cases h : F_within k ⟨1, rfl⟩ ⟨16, rfl⟩
  · refine ⟨Tb8o, ?_⟩
    rw [out_8, in_eq, h]
    unfold nameOf
    rw [h]; rfl
  · refine ⟨Tb8, ?_⟩
    rcases in_cases h with rfl | rfl | rfl | rfl | rfl | rfl | rfl | rfl | rfl | rfl | rfl | rfl | rfl | rfl | rfl | rfl
    · exact c8_1
    · exact c8_2
    · exact c8_3
    · exact c8_4
    · exact c8_5
    · exact c8_6
    · exact c8_7
    · exact c8_8
    · exact c8_9
    · exact c8_10
    · exact c8_11
    · exact c8_12
    · exact c8_13
    · exact c8_14
    · exact c8_15
    · exact c8_16
noncomputable def Tb3 : Tb Tryd.prog := { T := [Y2, Y9], mix := mix, Es := [E_spec_ProjectionName, E_impl_ProjectionName], Bs := [], d := 1 }
theorem law_FnExactProjectionName (k : I64) : Tb3.run B3 [enc k] Bool = some true := by
  have h : Tb3.run B3 [enc k] Bool = bif !(eqStr (nameOf k) (nameOf k)) then some false else some true := by kernel_rfl
  rw [h, eqStr_refl]; rfl
end Go.Proofs.YtegdoadciojpaaaDoor.Ev
