/- The texts of projections, kind by kind. -/
import Derived.Test.YtegdoadciojpaaaDoorKP4
namespace Go.Proofs.YtegdoadciojpaaaDoor.Ev
open Go Go.RowKit
set_option maxRecDepth 100000
set_option linter.unusedVariables false
set_option linter.unusedSimpArgs false
noncomputable def B28 : Bod Tryd.prog := ⟨28, Tryd.f28, Tryd.f28.body.getD .skip, Tryd.func28, by kernel_rfl, by kernel_rfl, Loops.no _ _⟩
noncomputable def B26 : Bod Tryd.prog := ⟨26, Tryd.f26, Tryd.f26.body.getD .skip, Tryd.func26, by kernel_rfl, by kernel_rfl, Loops.no _ _⟩
noncomputable def Tb28 : Tb Tryd.prog := { T := [Y2, Y9, Y29, Y46, Y48], mix := mix, Es := [E_Decimal, E_Join], Bs := [], d := 1 }
noncomputable def Tb26 : Tb Tryd.prog := { T := [Y2, Y9, Y29, Y46], mix := mix, Es := [E_l17Names, E_l01Dec], Bs := [], d := 1 }
def sp1 : ByteArray := ⟨#[32]⟩
def fitB (a b : ByteArray) : Bool := decide (a.size + b.size ≤ 9223372036854775807)
def parts (s : ByteArray) (a b c d : I64) : List ByteArray := [s, decB a, decB b, decB c, decB d]
def iTx (s : ByteArray) (a b c d : I64) : Option ByteArray := bif decide ((Lib.join ((parts s a b c d).map (·.data.toList)) sp1.data.toList).length ≤ 140737488355328) then some (joinB (parts s a b c d) sp1) else none
def s1 (s : ByteArray) : ByteArray := s ++ sp1
def s2 (s : ByteArray) (a : I64) : ByteArray := s1 s ++ decB a
def s3 (s : ByteArray) (a : I64) : ByteArray := s2 s a ++ sp1
def s4 (s : ByteArray) (a b : I64) : ByteArray := s3 s a ++ decB b
def s5 (s : ByteArray) (a b : I64) : ByteArray := s4 s a b ++ sp1
def s6 (s : ByteArray) (a b c : I64) : ByteArray := s5 s a b ++ decB c
def s7 (s : ByteArray) (a b c : I64) : ByteArray := s6 s a b c ++ sp1
def s8 (s : ByteArray) (a b c d : I64) : ByteArray := s7 s a b c ++ decB d
def sTx (s : ByteArray) (a b c d : I64) : Option ByteArray := bif fitB s sp1 then bif fitB (s1 s) (decB a) then bif fitB (s2 s a) sp1 then bif fitB (s3 s a) (decB b) then bif fitB (s4 s a b) sp1 then bif fitB (s5 s a b) (decB c) then
  bif fitB (s6 s a b c) sp1 then bif fitB (s7 s a b c) (decB d) then some (s8 s a b c d) else none else none else none else none else none else none else none else none
theorem i1 (a b c d : I64) : Tb28.run B28 [enc (⟨⟨1, rfl⟩, a, b, c, d⟩ : Proj)] ByteArray = iTx (names.getD 1 ByteArray.empty) a b c d := by kernel_rfl
theorem z1 (a b c d : I64) : Tb26.run B26 [enc (⟨⟨1, rfl⟩, a, b, c, d⟩ : Proj)] ByteArray = sTx (names.getD 1 ByteArray.empty) a b c d := by kernel_rfl
theorem i2 (a b c d : I64) : Tb28.run B28 [enc (⟨⟨2, rfl⟩, a, b, c, d⟩ : Proj)] ByteArray = iTx (names.getD 2 ByteArray.empty) a b c d := by kernel_rfl
theorem z2 (a b c d : I64) : Tb26.run B26 [enc (⟨⟨2, rfl⟩, a, b, c, d⟩ : Proj)] ByteArray = sTx (names.getD 2 ByteArray.empty) a b c d := by kernel_rfl
theorem i3 (a b c d : I64) : Tb28.run B28 [enc (⟨⟨3, rfl⟩, a, b, c, d⟩ : Proj)] ByteArray = iTx (names.getD 3 ByteArray.empty) a b c d := by kernel_rfl
theorem z3 (a b c d : I64) : Tb26.run B26 [enc (⟨⟨3, rfl⟩, a, b, c, d⟩ : Proj)] ByteArray = sTx (names.getD 3 ByteArray.empty) a b c d := by kernel_rfl
theorem i4 (a b c d : I64) : Tb28.run B28 [enc (⟨⟨4, rfl⟩, a, b, c, d⟩ : Proj)] ByteArray = iTx (names.getD 4 ByteArray.empty) a b c d := by kernel_rfl
theorem z4 (a b c d : I64) : Tb26.run B26 [enc (⟨⟨4, rfl⟩, a, b, c, d⟩ : Proj)] ByteArray = sTx (names.getD 4 ByteArray.empty) a b c d := by kernel_rfl
theorem i5 (a b c d : I64) : Tb28.run B28 [enc (⟨⟨5, rfl⟩, a, b, c, d⟩ : Proj)] ByteArray = iTx (names.getD 5 ByteArray.empty) a b c d := by kernel_rfl
theorem z5 (a b c d : I64) : Tb26.run B26 [enc (⟨⟨5, rfl⟩, a, b, c, d⟩ : Proj)] ByteArray = sTx (names.getD 5 ByteArray.empty) a b c d := by kernel_rfl
theorem i6 (a b c d : I64) : Tb28.run B28 [enc (⟨⟨6, rfl⟩, a, b, c, d⟩ : Proj)] ByteArray = iTx (names.getD 6 ByteArray.empty) a b c d := by kernel_rfl
theorem z6 (a b c d : I64) : Tb26.run B26 [enc (⟨⟨6, rfl⟩, a, b, c, d⟩ : Proj)] ByteArray = sTx (names.getD 6 ByteArray.empty) a b c d := by kernel_rfl
theorem i7 (a b c d : I64) : Tb28.run B28 [enc (⟨⟨7, rfl⟩, a, b, c, d⟩ : Proj)] ByteArray = iTx (names.getD 7 ByteArray.empty) a b c d := by kernel_rfl
theorem z7 (a b c d : I64) : Tb26.run B26 [enc (⟨⟨7, rfl⟩, a, b, c, d⟩ : Proj)] ByteArray = sTx (names.getD 7 ByteArray.empty) a b c d := by kernel_rfl
theorem i8 (a b c d : I64) : Tb28.run B28 [enc (⟨⟨8, rfl⟩, a, b, c, d⟩ : Proj)] ByteArray = iTx (names.getD 8 ByteArray.empty) a b c d := by kernel_rfl
theorem z8 (a b c d : I64) : Tb26.run B26 [enc (⟨⟨8, rfl⟩, a, b, c, d⟩ : Proj)] ByteArray = sTx (names.getD 8 ByteArray.empty) a b c d := by kernel_rfl
theorem i9 (a b c d : I64) : Tb28.run B28 [enc (⟨⟨9, rfl⟩, a, b, c, d⟩ : Proj)] ByteArray = iTx (names.getD 9 ByteArray.empty) a b c d := by kernel_rfl
theorem z9 (a b c d : I64) : Tb26.run B26 [enc (⟨⟨9, rfl⟩, a, b, c, d⟩ : Proj)] ByteArray = sTx (names.getD 9 ByteArray.empty) a b c d := by kernel_rfl
theorem i10 (a b c d : I64) : Tb28.run B28 [enc (⟨⟨10, rfl⟩, a, b, c, d⟩ : Proj)] ByteArray = iTx (names.getD 10 ByteArray.empty) a b c d := by kernel_rfl
theorem z10 (a b c d : I64) : Tb26.run B26 [enc (⟨⟨10, rfl⟩, a, b, c, d⟩ : Proj)] ByteArray = sTx (names.getD 10 ByteArray.empty) a b c d := by kernel_rfl
theorem i11 (a b c d : I64) : Tb28.run B28 [enc (⟨⟨11, rfl⟩, a, b, c, d⟩ : Proj)] ByteArray = iTx (names.getD 11 ByteArray.empty) a b c d := by kernel_rfl
theorem z11 (a b c d : I64) : Tb26.run B26 [enc (⟨⟨11, rfl⟩, a, b, c, d⟩ : Proj)] ByteArray = sTx (names.getD 11 ByteArray.empty) a b c d := by kernel_rfl
theorem i12 (a b c d : I64) : Tb28.run B28 [enc (⟨⟨12, rfl⟩, a, b, c, d⟩ : Proj)] ByteArray = iTx (names.getD 12 ByteArray.empty) a b c d := by kernel_rfl
theorem z12 (a b c d : I64) : Tb26.run B26 [enc (⟨⟨12, rfl⟩, a, b, c, d⟩ : Proj)] ByteArray = sTx (names.getD 12 ByteArray.empty) a b c d := by kernel_rfl
theorem i13 (a b c d : I64) : Tb28.run B28 [enc (⟨⟨13, rfl⟩, a, b, c, d⟩ : Proj)] ByteArray = iTx (names.getD 13 ByteArray.empty) a b c d := by kernel_rfl
theorem z13 (a b c d : I64) : Tb26.run B26 [enc (⟨⟨13, rfl⟩, a, b, c, d⟩ : Proj)] ByteArray = sTx (names.getD 13 ByteArray.empty) a b c d := by kernel_rfl
theorem i14 (a b c d : I64) : Tb28.run B28 [enc (⟨⟨14, rfl⟩, a, b, c, d⟩ : Proj)] ByteArray = iTx (names.getD 14 ByteArray.empty) a b c d := by kernel_rfl
theorem z14 (a b c d : I64) : Tb26.run B26 [enc (⟨⟨14, rfl⟩, a, b, c, d⟩ : Proj)] ByteArray = sTx (names.getD 14 ByteArray.empty) a b c d := by kernel_rfl
theorem i15 (a b c d : I64) : Tb28.run B28 [enc (⟨⟨15, rfl⟩, a, b, c, d⟩ : Proj)] ByteArray = iTx (names.getD 15 ByteArray.empty) a b c d := by kernel_rfl
theorem z15 (a b c d : I64) : Tb26.run B26 [enc (⟨⟨15, rfl⟩, a, b, c, d⟩ : Proj)] ByteArray = sTx (names.getD 15 ByteArray.empty) a b c d := by kernel_rfl
theorem i16 (a b c d : I64) : Tb28.run B28 [enc (⟨⟨16, rfl⟩, a, b, c, d⟩ : Proj)] ByteArray = iTx (names.getD 16 ByteArray.empty) a b c d := by kernel_rfl
theorem z16 (a b c d : I64) : Tb26.run B26 [enc (⟨⟨16, rfl⟩, a, b, c, d⟩ : Proj)] ByteArray = sTx (names.getD 16 ByteArray.empty) a b c d := by kernel_rfl
end Go.Proofs.YtegdoadciojpaaaDoor.Ev
