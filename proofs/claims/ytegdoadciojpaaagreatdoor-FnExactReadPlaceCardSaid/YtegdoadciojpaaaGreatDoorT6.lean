/-
  Reading places, the program's side: places, by the evaluator.
-/
import Derived.Test.YtegdoadciojpaaaGreatDoorT5
namespace Go.Proofs.YtegdoadciojpaaaGreatDoor.Ev
open Go Go.RowKit Go.Proofs.YtegdoadciojpaaaGreatDoor.Rq Go.Proofs.YtegdoadciojpaaaGreatDoor.Rt
set_option maxRecDepth 100000
set_option linter.unusedVariables false
set_option linter.unusedSimpArgs false
noncomputable def gPt (s : ByteArray) : Bool := gSize s && (gSize (c1 s bl) && gSize (c2 s bl))
noncomputable def rpF (s : ByteArray) : T2 Point Bool := bif !(dgB (c1 s bl)) then ⟨pt0, false⟩ else bif !(dgB (c2 s bl)) then ⟨pt0, false⟩ else bif !(F_impl_ValidPoint (ptOf s)) then ⟨pt0, false⟩ else ⟨ptOf s, true⟩
theorem rp12 (s : ByteArray) (h : gPt s = true) : Tb12.run B12 [enc s] (T2 Point Bool) = some (rpF s) := by
  simp only [gPt, Bool.and_eq_true] at h
  rw [r12, h.1, h.2.1, h.2.2]
  simp only [cond_true]
  unfold rpF
  cases dgB (c1 s bl) <;> cases dgB (c2 s bl) <;> cases F_impl_ValidPoint (ptOf s) <;> rfl
noncomputable def E_ReadPoint : Ent Tryz.prog := .of1 Tb12 B12 gPt rpF rp12
noncomputable def B5 : Bod Tryz.prog := ⟨5, Tryz.f5, Tryz.f5.body.getD .skip, Tryz.func5, by kernel_rfl, by kernel_rfl, Loops.no _ _⟩
noncomputable def Tb5 : Tb Tryz.prog := { T := [Y2, Y3, Y4, Y9, Y23, Y25], mix := mix, Es := [E_Last, E_ReadPoint, E_ReadDecimal, E_impl_ValidPlace], Bs := [], d := 1 }
def pl0 : Place := ⟨⟨⟨0, rfl⟩, ⟨0, rfl⟩⟩, ⟨0, rfl⟩⟩
def sp8 : Rng .u8 := ⟨32, rfl⟩
noncomputable def ix (s : ByteArray) : I64 := liI s sp8
noncomputable def jx (s : ByteArray) : I64 := .w .i64 ((ix s).val + 1)
noncomputable def s1 (s : ByteArray) : ByteArray := s.extract 0 (ix s).val.toNat
noncomputable def s2 (s : ByteArray) : ByteArray := s.extract (jx s).val.toNat s.size
noncomputable def plOf (s : ByteArray) : Place := ⟨(rpF (s1 s)).a, rdI (s2 s)⟩
theorem r5 (s : ByteArray) : Tb5.run B5 [enc s] (T2 Place Bool) = bif gSize s then (bif decide ((ix s).val < 0) then some ⟨pl0, false⟩ else
  bif (decide (0 ≤ (ix s).val) && decide ((ix s).val ≤ (s.size : Int))) then bif gPt (s1 s) then bif (decide (0 ≤ (jx s).val) && decide ((jx s).val ≤ (s.size : Int))) then bif gSize (s2 s) then
  (bif !(rpF (s1 s)).b then some ⟨pl0, false⟩ else bif !(rdB (s2 s)) then some ⟨pl0, false⟩ else bif !(F_impl_ValidPlace (plOf s)) then some ⟨pl0, false⟩ else some ⟨plOf s, true⟩) else none else none else none else none) else none := by kernel_rfl
end Go.Proofs.YtegdoadciojpaaaGreatDoor.Ev
