/-
  The walk of the texts of places, and the law.
-/
import Derived.Test.YtegdoadciojpaaaDoorK4
namespace Go.Proofs.YtegdoadciojpaaaDoor.Ev
open Go Go.RowKit
set_option maxRecDepth 100000
set_option linter.unusedVariables false
set_option linter.unusedSimpArgs false
def sp1 : ByteArray := ⟨#[32]⟩
def pT1 (p : Point) : ByteArray := degB p.lat ++ sp1
def pT (p : Point) : ByteArray := pT1 p ++ degB p.lon
noncomputable def B33 : Bod Tryd.prog := ⟨33, Tryd.f33, Tryd.f33.body.getD .skip, Tryd.func33, by kernel_rfl, by kernel_rfl, Loops.no _ _⟩
noncomputable def B48 : Bod Tryd.prog := ⟨48, Tryd.f48, Tryd.f48.body.getD .skip, Tryd.func48, by kernel_rfl, by kernel_rfl, Loops.no _ _⟩
noncomputable def Tb33 : Tb Tryd.prog := { T := [Y2, Y9, Y37], mix := mix, Es := [E_degreesText], Bs := [], d := 1 }
noncomputable def Tb48 : Tb Tryd.prog := { T := [Y2, Y9, Y37], mix := mix, Es := [E_l11Text, E_spec_l11Ok], Bs := [], d := 1 }
def ptO (p : Point) : Option ByteArray := bif degG p.lat then bif fitB (degB p.lat) sp1 then bif degG p.lon then bif fitB (pT1 p) (degB p.lon) then some (pT p) else none else none else none else none
theorem r33 (p : Point) : Tb33.run B33 [enc p] ByteArray = ptO p := by kernel_rfl
theorem r48 (p : Point) : Tb48.run B48 [enc p] ByteArray = bif !(F_spec_l11Ok p) then some ⟨#[]⟩ else ptO p := by kernel_rfl
theorem ok_deg {p : Point} (h : F_spec_l11Ok p = true) : degG p.lat = true ∧ degG p.lon = true := by
  simp only [F_spec_l11Ok, t_spec_l11Ok, Tr.get, F_spec_l00In, t_spec_l00In] at h
  simp only [degG, Bool.and_eq_true, decide_eq_true_eq]
  by_cases h1 : p.lat.val ≥ -900000000 <;> by_cases h2 : p.lat.val ≤ 900000000 <;> by_cases h3 : p.lon.val ≥ -1799999999 <;> by_cases h4 : p.lon.val ≤ 1800000000 <;> simp [h1, h2, h3, h4] at h ⊢ <;> omega
theorem pt_ok {p : Point} (h : F_spec_l11Ok p = true) : ptO p = some (pT p) ∧ (pT p).size ≤ 81 := by
  obtain ⟨h1, h2⟩ := ok_deg h
  have s1 := (deg_both h1).2.2
  have s2 := (deg_both h2).2.2
  have s3 : (pT1 p).size ≤ 41 := by unfold pT1; rw [ByteArray.size_append]; show _ + 1 ≤ 41; omega
  unfold ptO
  rw [h1, h2, fit_of (show (degB p.lat).size + 1 ≤ 1000 by omega), fit_of (by omega)]
  refine ⟨rfl, ?_⟩
  unfold pT; rw [ByteArray.size_append]; omega
noncomputable def E_pointText : Ent Tryd.prog := .of1 Tb33 B33 F_spec_l11Ok pT fun p h => (r33 p).trans (pt_ok h).1
noncomputable def E_PointText : Ent Tryd.prog := .of1 Tb48 B48 F_spec_l11Ok pT fun p h => by rw [r48, h]; exact (pt_ok h).1

def pl1 (q : Place) : ByteArray := pT q.pt ++ sp1
def plT (q : Place) : ByteArray := pl1 q ++ decB q.h
noncomputable def plO (q : Place) : Option ByteArray := bif F_spec_l11Ok q.pt then bif fitB (pT q.pt) sp1 then bif fitB (pl1 q) (decB q.h) then some (plT q) else none else none else none
noncomputable def B17 : Bod Tryd.prog := ⟨17, Tryd.f17, Tryd.f17.body.getD .skip, Tryd.func17, by kernel_rfl, by kernel_rfl, Loops.no _ _⟩
noncomputable def B15 : Bod Tryd.prog := ⟨15, Tryd.f15, Tryd.f15.body.getD .skip, Tryd.func15, by kernel_rfl, by kernel_rfl, Loops.no _ _⟩
noncomputable def B29 : Bod Tryd.prog := ⟨29, Tryd.f29, Tryd.f29.body.getD .skip, Tryd.func29, by kernel_rfl, by kernel_rfl, Loops.no _ _⟩
noncomputable def B30 : Bod Tryd.prog := ⟨30, Tryd.f30, Tryd.f30.body.getD .skip, Tryd.func30, by kernel_rfl, by kernel_rfl, Loops.no _ _⟩
noncomputable def Tb17 : Tb Tryd.prog := { T := [Y2, Y9, Y37, Y39], mix := mix, Es := [E_impl_ValidPlace, E_pointText, E_Decimal], Bs := [], d := 1 }
noncomputable def Tb15 : Tb Tryd.prog := { T := [Y2, Y9, Y37, Y39], mix := mix, Es := [E_spec_l11Ok, E_spec_l00In, E_PointText, E_l01Dec], Bs := [B29, B30], d := 3 }
theorem r17 (q : Place) : Tb17.run B17 [enc q] ByteArray = bif !(F_impl_ValidPlace q) then some ⟨#[]⟩ else plO q := by kernel_rfl
theorem r15 (q : Place) : Tb15.run B15 [enc q] ByteArray = bif F_spec_l11Ok q.pt then (bif !(F_spec_l00In q.h ⟨-20000000, rfl⟩ ⟨20000000000, rfl⟩) then some ⟨#[]⟩ else plO q) else some ⟨#[]⟩ := by kernel_rfl
theorem pl_ok {q : Place} (h : F_spec_l11Ok q.pt = true) : plO q = some (plT q) := by
  have s1 := (pt_ok h).2
  have s2 := decB_size q.h
  have s3 : (pl1 q).size ≤ 82 := by unfold pl1; rw [ByteArray.size_append]; show _ + 1 ≤ 82; omega
  unfold plO
  rw [h, fit_of (show (pT q.pt).size + 1 ≤ 1000 by omega), fit_of (by omega)]
  rfl
theorem within_eq1 (a b c : I64) : F_impl_within a b c = F_spec_l00In a b c := rfl
theorem point_eq1 (p : Point) : F_impl_ValidPoint p = F_spec_l11Ok p := by
  simp only [F_impl_ValidPoint, F_spec_l11Ok, t_impl_ValidPoint, t_spec_l11Ok, Tr.get, within_eq1, F_spec_l00In, t_spec_l00In]
  rw [Bool.eq_iff_iff]
  simp [Bool.cond_eq_ite]
  grind
noncomputable def plB (q : Place) : ByteArray := bif F_spec_l11Ok q.pt then bif F_spec_l00In q.h ⟨-20000000, rfl⟩ ⟨20000000000, rfl⟩ then plT q else ⟨#[]⟩ else ⟨#[]⟩
theorem f17 (q : Place) : Tb17.run B17 [enc q] ByteArray = some (plB q) := by
  have e : F_impl_ValidPlace q = bif F_spec_l11Ok q.pt then F_spec_l00In q.h ⟨-20000000, rfl⟩ ⟨20000000000, rfl⟩ else false := by
    simp only [F_impl_ValidPlace, t_impl_ValidPlace, Tr.get, F_impl_isHeight, t_impl_isHeight, point_eq1, within_eq1]
  rw [r17, e]
  unfold plB
  cases h : F_spec_l11Ok q.pt
  · rfl
  · simp only [cond_true]
    cases h2 : F_spec_l00In q.h ⟨-20000000, rfl⟩ ⟨20000000000, rfl⟩
    · rfl
    · exact pl_ok h
theorem f15 (q : Place) : Tb15.run B15 [enc q] ByteArray = some (plB q) := by
  rw [r15]
  unfold plB
  cases h : F_spec_l11Ok q.pt
  · rfl
  · simp only [cond_true]
    cases h2 : F_spec_l00In q.h ⟨-20000000, rfl⟩ ⟨20000000000, rfl⟩
    · rfl
    · exact pl_ok h
noncomputable def E_spec_PlaceText : Ent Tryd.prog := .of1 Tb15 B15 (fun _ => true) plB fun q _ => f15 q
noncomputable def E_impl_PlaceText : Ent Tryd.prog := .of1 Tb17 B17 (fun _ => true) plB fun q _ => f17 q
noncomputable def B6 : Bod Tryd.prog := ⟨6, Tryd.f6, Tryd.f6.body.getD .skip, Tryd.func6, by kernel_rfl, by kernel_rfl, Loops.no _ _⟩
noncomputable def Tb6 : Tb Tryd.prog := { T := [Y2, Y9, Y33, Y35, Y37, Y39], mix := mix, Es := [E_laws_toPlace, E_spec_PlaceText, E_impl_PlaceText], Bs := [], d := 1 }
theorem law_FnExactPlaceText (p : Place) : Tb6.run B6 [enc p] Bool = some true := by
  have h : Tb6.run B6 [enc p] Bool = bif !(eqStr (plB (F_laws_toPlace p)) (plB (F_laws_toPlace p))) then some false else some true := by kernel_rfl
  rw [h, eqStr_refl]; rfl
end Go.Proofs.YtegdoadciojpaaaDoor.Ev
