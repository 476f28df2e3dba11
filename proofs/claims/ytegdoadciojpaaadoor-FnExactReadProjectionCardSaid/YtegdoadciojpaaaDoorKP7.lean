/- The texts of projections: the law. -/
import Derived.Test.YtegdoadciojpaaaDoorKP6
namespace Go.Proofs.YtegdoadciojpaaaDoor.Ev
open Go Go.RowKit
set_option maxRecDepth 100000
set_option linter.unusedVariables false
set_option linter.unusedSimpArgs false
noncomputable def B12 : Bod Tryd.prog := ⟨12, Tryd.f12, Tryd.f12.body.getD .skip, Tryd.func12, by kernel_rfl, by kernel_rfl, Loops.no _ _⟩
noncomputable def B14 : Bod Tryd.prog := ⟨14, Tryd.f14, Tryd.f14.body.getD .skip, Tryd.func14, by kernel_rfl, by kernel_rfl, Loops.no _ _⟩
noncomputable def B5 : Bod Tryd.prog := ⟨5, Tryd.f5, Tryd.f5.body.getD .skip, Tryd.func5, by kernel_rfl, by kernel_rfl, Loops.no _ _⟩
def kG (k : I64) : Bool := decide (1 ≤ k.val) && decide (k.val ≤ 16)
theorem k_cases {k : I64} (h : kG k = true) : k = ⟨1, rfl⟩ ∨ k = ⟨2, rfl⟩ ∨ k = ⟨3, rfl⟩ ∨ k = ⟨4, rfl⟩ ∨ k = ⟨5, rfl⟩ ∨ k = ⟨6, rfl⟩ ∨ k = ⟨7, rfl⟩ ∨ k = ⟨8, rfl⟩ ∨ k = ⟨9, rfl⟩ ∨ k = ⟨10, rfl⟩ ∨ k = ⟨11, rfl⟩ ∨ k = ⟨12, rfl⟩ ∨ k = ⟨13, rfl⟩ ∨ k = ⟨14, rfl⟩ ∨ k = ⟨15, rfl⟩ ∨ k = ⟨16, rfl⟩ := by
  simp only [kG, Bool.and_eq_true, decide_eq_true_eq] at h
  have e : ∀ n : I64, k.val = n.val → k = n := fun n h => Rng.ext h
  have : k.val = 1 ∨ k.val = 2 ∨ k.val = 3 ∨ k.val = 4 ∨ k.val = 5 ∨ k.val = 6 ∨ k.val = 7 ∨ k.val = 8 ∨ k.val = 9 ∨ k.val = 10 ∨ k.val = 11 ∨ k.val = 12 ∨ k.val = 13 ∨ k.val = 14 ∨ k.val = 15 ∨ k.val = 16 := by omega
  rcases this with h | h | h | h | h | h | h | h | h | h | h | h | h | h | h | h
  · left; exact e ⟨1, rfl⟩ h
  · right; left; exact e ⟨2, rfl⟩ h
  · right; right; left; exact e ⟨3, rfl⟩ h
  · right; right; right; left; exact e ⟨4, rfl⟩ h
  · right; right; right; right; left; exact e ⟨5, rfl⟩ h
  · right; right; right; right; right; left; exact e ⟨6, rfl⟩ h
  · right; right; right; right; right; right; left; exact e ⟨7, rfl⟩ h
  · right; right; right; right; right; right; right; left; exact e ⟨8, rfl⟩ h
  · right; right; right; right; right; right; right; right; left; exact e ⟨9, rfl⟩ h
  · right; right; right; right; right; right; right; right; right; left; exact e ⟨10, rfl⟩ h
  · right; right; right; right; right; right; right; right; right; right; left; exact e ⟨11, rfl⟩ h
  · right; right; right; right; right; right; right; right; right; right; right; left; exact e ⟨12, rfl⟩ h
  · right; right; right; right; right; right; right; right; right; right; right; right; left; exact e ⟨13, rfl⟩ h
  · right; right; right; right; right; right; right; right; right; right; right; right; right; left; exact e ⟨14, rfl⟩ h
  · right; right; right; right; right; right; right; right; right; right; right; right; right; right; left; exact e ⟨15, rfl⟩ h
  · right; right; right; right; right; right; right; right; right; right; right; right; right; right; right; exact e ⟨16, rfl⟩ h
def nmK (k : I64) : ByteArray := names.getD k.val.toNat ByteArray.empty
def txP (p : Proj) : ByteArray := s8 (nmK p.kind) p.lat0 p.lon0 p.lat1 p.lat2
theorem both (p : Proj) (h : kG p.kind = true) : Tb28.run B28 [enc p] ByteArray = some (txP p) ∧ Tb26.run B26 [enc p] ByteArray = some (txP p) := by
  obtain ⟨k, a, b, c, d⟩ := p
  rcases k_cases h with rfl | rfl | rfl | rfl | rfl | rfl | rfl | rfl | rfl | rfl | rfl | rfl | rfl | rfl | rfl | rfl
  · exact ⟨(i1 a b c d).trans (tx_one (by decide) a b c d).1, (z1 a b c d).trans (tx_one (by decide) a b c d).2⟩
  · exact ⟨(i2 a b c d).trans (tx_one (by decide) a b c d).1, (z2 a b c d).trans (tx_one (by decide) a b c d).2⟩
  · exact ⟨(i3 a b c d).trans (tx_one (by decide) a b c d).1, (z3 a b c d).trans (tx_one (by decide) a b c d).2⟩
  · exact ⟨(i4 a b c d).trans (tx_one (by decide) a b c d).1, (z4 a b c d).trans (tx_one (by decide) a b c d).2⟩
  · exact ⟨(i5 a b c d).trans (tx_one (by decide) a b c d).1, (z5 a b c d).trans (tx_one (by decide) a b c d).2⟩
  · exact ⟨(i6 a b c d).trans (tx_one (by decide) a b c d).1, (z6 a b c d).trans (tx_one (by decide) a b c d).2⟩
  · exact ⟨(i7 a b c d).trans (tx_one (by decide) a b c d).1, (z7 a b c d).trans (tx_one (by decide) a b c d).2⟩
  · exact ⟨(i8 a b c d).trans (tx_one (by decide) a b c d).1, (z8 a b c d).trans (tx_one (by decide) a b c d).2⟩
  · exact ⟨(i9 a b c d).trans (tx_one (by decide) a b c d).1, (z9 a b c d).trans (tx_one (by decide) a b c d).2⟩
  · exact ⟨(i10 a b c d).trans (tx_one (by decide) a b c d).1, (z10 a b c d).trans (tx_one (by decide) a b c d).2⟩
  · exact ⟨(i11 a b c d).trans (tx_one (by decide) a b c d).1, (z11 a b c d).trans (tx_one (by decide) a b c d).2⟩
  · exact ⟨(i12 a b c d).trans (tx_one (by decide) a b c d).1, (z12 a b c d).trans (tx_one (by decide) a b c d).2⟩
  · exact ⟨(i13 a b c d).trans (tx_one (by decide) a b c d).1, (z13 a b c d).trans (tx_one (by decide) a b c d).2⟩
  · exact ⟨(i14 a b c d).trans (tx_one (by decide) a b c d).1, (z14 a b c d).trans (tx_one (by decide) a b c d).2⟩
  · exact ⟨(i15 a b c d).trans (tx_one (by decide) a b c d).1, (z15 a b c d).trans (tx_one (by decide) a b c d).2⟩
  · exact ⟨(i16 a b c d).trans (tx_one (by decide) a b c d).1, (z16 a b c d).trans (tx_one (by decide) a b c d).2⟩
noncomputable def E_projectionText : Ent Tryd.prog := .of1 Tb28 B28 (fun p : Proj => kG p.kind) txP fun p h => (both p h).1
noncomputable def E_l17Text : Ent Tryd.prog := .of1 Tb26 B26 (fun p : Proj => kG p.kind) txP fun p h => (both p h).2
noncomputable def Tb14 : Tb Tryd.prog := { T := [Y2, Y9, Y29], mix := mix, Es := [E_impl_ValidProjection, E_projectionText], Bs := [], d := 1 }
noncomputable def Tb12 : Tb Tryd.prog := { T := [Y2, Y9, Y29], mix := mix, Es := [E_spec_l17Ok, E_l17Text], Bs := [], d := 1 }
theorem r14 (p : Proj) : Tb14.run B14 [enc p] ByteArray = bif !(F_impl_ValidProjection p) then some ⟨#[]⟩ else bif kG p.kind then some (txP p) else none := by kernel_rfl
theorem r12 (p : Proj) : Tb12.run B12 [enc p] ByteArray = bif !(F_spec_l17Ok p) then some ⟨#[]⟩ else bif kG p.kind then some (txP p) else none := by kernel_rfl
end Go.Proofs.YtegdoadciojpaaaDoor.Ev
