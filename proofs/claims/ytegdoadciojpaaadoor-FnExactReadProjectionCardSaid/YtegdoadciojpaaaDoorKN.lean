/- The walk of the kinds by name. -/
import Derived.Test.YtegdoadciojpaaaDoorKR1
namespace Go.Proofs.YtegdoadciojpaaaDoor.Ev
open Go Go.RowKit
set_option maxRecDepth 100000
set_option linter.unusedVariables false
noncomputable def B11 : Bod Tryd.prog := ⟨11, Tryd.f11, Tryd.f11.body.getD .skip, Tryd.func11, by kernel_rfl, by kernel_rfl, Loops.no _ _⟩
noncomputable def B24 : Bod Tryd.prog := ⟨24, Tryd.f24, Tryd.f24.body.getD .skip, Tryd.func24, by kernel_rfl, by kernel_rfl, Loops.no _ _⟩
theorem somebif {α : Type} (c : Bool) (a b : α) : (bif c then some a else some b) = some (bif c then a else b) := by cases c <;> rfl
theorem eqStr_comm (a b : ByteArray) : eqStr a b = eqStr b a := by unfold eqStr; exact BEq.comm
theorem eqStr_at {a s : ByteArray} (h : eqStr a s = true) (b : ByteArray) : eqStr b a = eqStr b s := by unfold eqStr at *; rw [eq_of_beq h]
def kindOf (s : ByteArray) : I64 := bif eqStr (names.getD 1 ByteArray.empty) s then ⟨1, rfl⟩ else (bif eqStr (names.getD 2 ByteArray.empty) s then ⟨2, rfl⟩ else (bif eqStr (names.getD 3 ByteArray.empty) s then ⟨3, rfl⟩ else (bif eqStr (names.getD 4 ByteArray.empty) s then ⟨4, rfl⟩ else (bif eqStr (names.getD 5 ByteArray.empty) s then ⟨5, rfl⟩ else (bif eqStr (names.getD 6 ByteArray.empty) s then ⟨6, rfl⟩ else (bif eqStr (names.getD 7 ByteArray.empty) s then ⟨7, rfl⟩ else (bif eqStr (names.getD 8 ByteArray.empty) s then ⟨8, rfl⟩ else (bif eqStr (names.getD 9 ByteArray.empty) s then ⟨9, rfl⟩ else (bif eqStr (names.getD 10 ByteArray.empty) s then ⟨10, rfl⟩ else (bif eqStr (names.getD 11 ByteArray.empty) s then ⟨11, rfl⟩ else (bif eqStr (names.getD 12 ByteArray.empty) s then ⟨12, rfl⟩ else (bif eqStr (names.getD 13 ByteArray.empty) s then ⟨13, rfl⟩ else (bif eqStr (names.getD 14 ByteArray.empty) s then ⟨14, rfl⟩ else (bif eqStr (names.getD 15 ByteArray.empty) s then ⟨15, rfl⟩ else (bif eqStr (names.getD 16 ByteArray.empty) s then ⟨16, rfl⟩ else ⟨0, rfl⟩)))))))))))))))
theorem kind0 {s : ByteArray} (h : eqStr (names.getD 0 ByteArray.empty) s = true) : kindOf s = ⟨0, rfl⟩ := by
  have e : kindOf s = kindOf (names.getD 0 ByteArray.empty) := by
    unfold kindOf
    simp only [fun b => eqStr_at h b]
  have e2 : kindOf (names.getD 0 ByteArray.empty) = ⟨0, rfl⟩ := by kernel_rfl
  exact e.trans e2
noncomputable def Tb11 : Tb Tryd.prog := { T := [Y2, Y3, Y9, Y46, Y48], mix := mix, Es := [], Bs := [B24], d := 3 }
theorem r11 (s : ByteArray) : Tb11.run B11 [enc s] I64 = some (kindOf s) := by
  have h : Tb11.run B11 [enc s] I64 = bif eqStr s (names.getD 0 ByteArray.empty) then some ⟨0, rfl⟩ else (bif eqStr s (names.getD 1 ByteArray.empty) then some ⟨1, rfl⟩ else (bif eqStr s (names.getD 2 ByteArray.empty) then some ⟨2, rfl⟩ else (bif eqStr s (names.getD 3 ByteArray.empty) then some ⟨3, rfl⟩ else (bif eqStr s (names.getD 4 ByteArray.empty) then some ⟨4, rfl⟩ else (bif eqStr s (names.getD 5 ByteArray.empty) then some ⟨5, rfl⟩ else (bif eqStr s (names.getD 6 ByteArray.empty) then some ⟨6, rfl⟩ else (bif eqStr s (names.getD 7 ByteArray.empty) then some ⟨7, rfl⟩ else (bif eqStr s (names.getD 8 ByteArray.empty) then some ⟨8, rfl⟩ else (bif eqStr s (names.getD 9 ByteArray.empty) then some ⟨9, rfl⟩ else (bif eqStr s (names.getD 10 ByteArray.empty) then some ⟨10, rfl⟩ else (bif eqStr s (names.getD 11 ByteArray.empty) then some ⟨11, rfl⟩ else (bif eqStr s (names.getD 12 ByteArray.empty) then some ⟨12, rfl⟩ else (bif eqStr s (names.getD 13 ByteArray.empty) then some ⟨13, rfl⟩ else (bif eqStr s (names.getD 14 ByteArray.empty) then some ⟨14, rfl⟩ else (bif eqStr s (names.getD 15 ByteArray.empty) then some ⟨15, rfl⟩ else (bif eqStr s (names.getD 16 ByteArray.empty) then some ⟨16, rfl⟩ else some ⟨0, rfl⟩)))))))))))))))) := by kernel_rfl
  rw [h]; simp only [somebif]
  unfold kindOf
  simp only [eqStr_comm s]
  cases h0 : eqStr (names.getD 0 ByteArray.empty) s
  · rfl
  · exact congrArg some (kind0 h0).symm
noncomputable def E_impl_ProjectionNamed : Ent Tryd.prog := .of1 Tb11 B11 (fun _ => true) kindOf fun s _ => r11 s
end Go.Proofs.YtegdoadciojpaaaDoor.Ev
