/-
  The walk of the texts of places.
-/
import Derived.Test.YtegdoadciojpaaaDoorK3
namespace Go.Proofs.YtegdoadciojpaaaDoor.Ev
open Go Go.RowKit
set_option maxRecDepth 100000
set_option linter.unusedVariables false
set_option linter.unusedSimpArgs false
noncomputable def Y3 : TyE Tryd.prog := ⟨3, 1, (.int .i64), [.i64 ⟨0, rfl⟩], false, by kernel_rfl, by kernel_rfl, by kernel_rfl, by kernel_rfl, by kernel_rfl, by kernel_rfl⟩
noncomputable def Y9 : TyE Tryd.prog := ⟨9, 1, .str, [.str ByteArray.empty], false, by kernel_rfl, by kernel_rfl, by kernel_rfl, by kernel_rfl, by kernel_rfl, by kernel_rfl⟩
noncomputable def B34 : Bod Tryd.prog := ⟨34, Tryd.f34, Tryd.f34.body.getD .skip, Tryd.func34, by kernel_rfl, by kernel_rfl, Loops.no _ _⟩
noncomputable def Tb34 : Tb Tryd.prog := { T := [Y2, Y9], mix := mix, Es := [E_FormatInt], Bs := [], d := 1 }
theorem r34 (n : I64) : Tb34.run B34 [enc n] ByteArray = some (decB n) := by kernel_rfl
noncomputable def E_Decimal : Ent Tryd.prog := .of1 Tb34 B34 (fun _ => true) decB fun n _ => r34 n

/-! ### degrees -/
def fitB (a b : ByteArray) : Bool := decide (a.size + b.size ≤ 9223372036854775807)
def quoD (m : I64) : I64 := .w .i64 (m.val.tdiv 10000000)
def remD (m : I64) : I64 := .w .i64 (m.val.tmod 10000000)
def zsD (m : I64) : I64 := .w .i64 (7 - (Rng.w .i64 ((decB (remD m)).size : Int)).val)
def zrD (m : I64) : ByteArray := repB ⟨#[48]⟩ (zsD m)
def h1D (sg : ByteArray) (m : I64) : ByteArray := sg ++ decB (quoD m)
def h2D (sg : ByteArray) (m : I64) : ByteArray := h1D sg m ++ ⟨#[46]⟩
def h3D (sg : ByteArray) (m : I64) : ByteArray := h2D sg m ++ zrD m
def iDeg (sg : ByteArray) (m : I64) : Option ByteArray :=
  bif fitB sg (decB (quoD m)) then bif fitB (h1D sg m) ⟨#[46]⟩ then bif inB .i64 ((decB (remD m)).size : Int) then
    bif decide (0 ≤ (zsD m).val) && decide ((⟨#[48]⟩ : ByteArray).size * (zsD m).val.toNat ≤ 140737488355328) then
      bif fitB (h2D sg m) (zrD m) then bif fitB (h3D sg m) (decB (remD m)) then some (h3D sg m ++ decB (remD m)) else none else none else none else none else none else none
noncomputable def B50 : Bod Tryd.prog := ⟨50, Tryd.f50, Tryd.f50.body.getD .skip, Tryd.func50, by kernel_rfl, by kernel_rfl, Loops.no _ _⟩
noncomputable def B60 : Bod Tryd.prog := ⟨60, Tryd.f60, Tryd.f60.body.getD .skip, Tryd.func60, by kernel_rfl, by kernel_rfl, Loops.no _ _⟩
noncomputable def B71 : Bod Tryd.prog := ⟨71, Tryd.f71, Tryd.f71.body.getD .skip, Tryd.func71, by kernel_rfl, by kernel_rfl, Loops.no _ _⟩
noncomputable def Tb50 : Tb Tryd.prog := { T := [Y2, Y3, Y9], mix := mix, Es := [E_Decimal, E_Repeat], Bs := [B60, B71], d := 4 }
theorem r50 (n : I64) : Tb50.run B50 [enc n] ByteArray = bif decide (n.val < 0) then iDeg ⟨#[45]⟩ (.w .i64 (0 - n.val)) else iDeg ⟨#[]⟩ n := by kernel_rfl
def sDeg (sg : ByteArray) (m : I64) : Option ByteArray :=
  bif fitB sg (decB (quoD m)) then bif fitB (h1D sg m) ⟨#[46]⟩ then
    bif (decide (0 ≤ (remD m).val) && decide ((remD m).val < 10000000)) then bif fitB (h2D sg m) (padB (remD m)) then some (h2D sg m ++ padB (remD m)) else none else none else none else none
noncomputable def B59 : Bod Tryd.prog := ⟨59, Tryd.f59, Tryd.f59.body.getD .skip, Tryd.func59, by kernel_rfl, by kernel_rfl, Loops.no _ _⟩
noncomputable def Tb59 : Tb Tryd.prog := { T := [Y2, Y3, Y9], mix := mix, Es := [E_l01Dec, E_l11Digits], Bs := [], d := 1 }
theorem r59 (n : I64) : Tb59.run B59 [enc n] ByteArray = bif decide (n.val < 0) then sDeg ⟨#[45]⟩ (.w .i64 (0 - n.val)) else sDeg ⟨#[]⟩ n := by kernel_rfl

/-! ### both texts of degrees are one -/
theorem wv {n : Int} (h1 : -9223372036854775808 ≤ n) (h2 : n ≤ 9223372036854775807) : (Rng.w .i64 n).val = n := wrap_inB (by simp only [inB, Bool.and_eq_true, decide_eq_true_eq]; exact ⟨h1, h2⟩)
theorem mk_size (l : List UInt8) : (⟨l.toArray⟩ : ByteArray).size = l.length := by simp [ByteArray.size]
theorem decB_size (n : I64) : (decB n).size ≤ 21 := by unfold decB; rw [mk_size]; exact Pp.itoa_len n.val n.bd.1 n.bd.2
theorem rep_len (c : Nat) : (Lib.repeatL [48] c).length = c := by
  induction c with
  | zero => rfl
  | succ c ih => show ([48] ++ Lib.repeatL [48] c).length = c + 1; rw [List.length_append, ih]; simp; omega
theorem fit_of {a b : ByteArray} (h : a.size + b.size ≤ 1000) : fitB a b = true := by unfold fitB; simp only [decide_eq_true_eq]; omega
def dgB (sg : ByteArray) (m : I64) : ByteArray := h2D sg m ++ padB (remD m)
theorem deg_one {sg : ByteArray} {m : I64} (hs : sg.size ≤ 1) (hm : 0 ≤ m.val ∧ m.val ≤ 1800000000) : iDeg sg m = some (dgB sg m) ∧ sDeg sg m = some (dgB sg m) ∧ (dgB sg m).size ≤ 40 := by
  have r1 := Int.tmod_lt_of_pos m.val (b := 10000000) (by decide)
  have r2 := Int.tmod_nonneg 10000000 hm.1
  have hr : (remD m).val = m.val.tmod 10000000 := wv (by omega) (by omega)
  have hl := (Pp.digits7 (remD m).val (by omega) (by omega)).1
  have hd : (decB (remD m)).size = (Lib.itoa (remD m).val).length := by unfold decB; rw [mk_size]
  have hz : (zsD m).val = 7 - ((Lib.itoa (remD m).val).length : Int) := by
    unfold zsD
    rw [hd, wv (n := ((Lib.itoa (remD m).val).length : Int)) (by omega) (by omega), wv (by omega) (by omega)]
  have hzr : zrD m = ⟨(Lib.repeatL [48] (7 - (Lib.itoa (remD m).val).length)).toArray⟩ := by
    unfold zrD repB
    rw [hz, show (7 - ((Lib.itoa (remD m).val).length : Int)).toNat = 7 - (Lib.itoa (remD m).val).length by omega]
  have hp : zrD m ++ decB (remD m) = padB (remD m) := by rw [hzr]; unfold decB padB; rw [Pp.ba_mk]
  have zs : (zrD m).size ≤ 7 := by rw [hzr, mk_size, rep_len]; omega
  have ps : (padB (remD m)).size ≤ 28 := by rw [← hp, ByteArray.size_append]; omega
  have dq := decB_size (quoD m)
  have s1 : (h1D sg m).size ≤ 22 := by unfold h1D; rw [ByteArray.size_append]; omega
  have s2 : (h2D sg m).size ≤ 23 := by unfold h2D; rw [ByteArray.size_append]; show _ + 1 ≤ 23; omega
  have s3 : (h3D sg m).size ≤ 30 := by unfold h3D; rw [ByteArray.size_append]; omega
  have ps7 : (padB (remD m)).size = 7 := by unfold padB; rw [mk_size, List.length_append, rep_len]; omega
  refine ⟨?_, ?_, ?_⟩
  · unfold iDeg
    have c1 : inB .i64 ((decB (remD m)).size : Int) = true := by simp only [inB, Bool.and_eq_true, decide_eq_true_eq]; omega
    have c2 : (decide (0 ≤ (zsD m).val) && decide ((⟨#[48]⟩ : ByteArray).size * (zsD m).val.toNat ≤ 140737488355328)) = true := by
      simp only [Bool.and_eq_true, decide_eq_true_eq]
      refine ⟨by omega, ?_⟩
      show 1 * (zsD m).val.toNat ≤ _
      omega
    rw [fit_of (by omega), fit_of (show (h1D sg m).size + 1 ≤ 1000 by omega), c1, c2, fit_of (by omega), fit_of (by omega)]
    simp only [cond_true]
    unfold dgB h3D
    rw [ByteArray.append_assoc, hp]
  · unfold sDeg
    have c1 : (decide (0 ≤ (remD m).val) && decide ((remD m).val < 10000000)) = true := by simp only [Bool.and_eq_true, decide_eq_true_eq]; omega
    rw [fit_of (by omega), fit_of (show (h1D sg m).size + 1 ≤ 1000 by omega), c1, fit_of (by omega)]
    rfl
  · unfold dgB; rw [ByteArray.size_append]; omega
/-- The text of an angle. -/
def degB (n : I64) : ByteArray := bif decide (n.val < 0) then dgB ⟨#[45]⟩ (.w .i64 (0 - n.val)) else dgB ⟨#[]⟩ n
def degG (n : I64) : Bool := decide (-1800000000 ≤ n.val) && decide (n.val ≤ 1800000000)
theorem deg_both {n : I64} (h : degG n = true) : Tb50.run B50 [enc n] ByteArray = some (degB n) ∧ Tb59.run B59 [enc n] ByteArray = some (degB n) ∧ (degB n).size ≤ 40 := by
  simp only [degG, Bool.and_eq_true, decide_eq_true_eq] at h
  rw [r50, r59]
  unfold degB
  by_cases hn : n.val < 0
  · have hw : (Rng.w .i64 (0 - n.val)).val = 0 - n.val := wv (by omega) (by omega)
    obtain ⟨e1, e2, e3⟩ := deg_one (sg := ⟨#[45]⟩) (m := .w .i64 (0 - n.val)) (by decide) (by rw [hw]; omega)
    simp only [hn, decide_true, cond_true, e1, e2]
    exact ⟨trivial, trivial, e3⟩
  · obtain ⟨e1, e2, e3⟩ := deg_one (sg := ⟨#[]⟩) (m := n) (by decide) (by omega)
    simp only [hn, decide_false, cond_false, e1, e2]
    exact ⟨trivial, trivial, e3⟩
noncomputable def E_degreesText : Ent Tryd.prog := .of1 Tb50 B50 degG degB fun n h => (deg_both h).1
noncomputable def E_l11Text : Ent Tryd.prog := .of1 Tb59 B59 degG degB fun n h => (deg_both h).2.1
end Go.Proofs.YtegdoadciojpaaaDoor.Ev
