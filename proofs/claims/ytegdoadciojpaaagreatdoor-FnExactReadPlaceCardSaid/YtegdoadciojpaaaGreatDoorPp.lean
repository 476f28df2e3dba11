/-
  Plain laws: the specification's decimal numerals are Go's.
-/
import Derived.Test.YtegdoadciojpaaaGreatDoorPr
import Derived.Lib.ItoaNum
import Derived.Lib.Repeat
namespace Go.Proofs.YtegdoadciojpaaaGreatDoor.Pp
open Go Go.RowKit Go.Proofs.YtegdoadciojpaaaGreatDoor.Pr
set_option linter.unusedVariables false
set_option linter.unusedSimpArgs false

/-- The digits of a number, as the loop lays them. -/
def dI (m : Nat) : List Int := if h : m = 0 then [] else dI (m / 10) ++ [((48 + m % 10 : Nat) : Int)]
termination_by m
decreasing_by omega
theorem dI_zero : dI 0 = [] := by rw [dI]; rfl
theorem dI_pos {m : Nat} (h : m ≠ 0) : dI m = dI (m / 10) ++ [((48 + m % 10 : Nat) : Int)] := by conv => lhs; rw [dI]; rw [dif_neg h]
theorem dI_dec (m : Nat) (h : m ≠ 0) : (dI m).map (fun n => UInt8.ofNat n.toNat) = Lib.decDigits m := by
  induction m using Nat.strongRecOn with
  | _ m ih =>
    rw [dI_pos h, Lib.decDigits, List.map_append]
    by_cases h1 : m < 10
    · rw [dif_pos h1, show m / 10 = 0 by omega, dI_zero, show m % 10 = m by omega]
      simp only [List.map_nil, List.nil_append, List.map_cons, Int.toNat_natCast]
    · rw [dif_neg h1, ih (m / 10) (by omega) (by omega)]
      simp only [List.map_nil, List.map_cons, Int.toNat_natCast]
theorem dI_len (d : Nat) : ∀ m, m < 10 ^ d → (dI m).length ≤ d := by
  induction d with
  | zero => intro m h; simp at h; subst h; rw [dI_zero]; simp
  | succ d ih =>
    intro m h
    by_cases h0 : m = 0
    · subst h0; rw [dI_zero]; simp
    · rw [dI_pos h0, List.length_append]
      have := ih (m / 10) (by rw [Nat.pow_succ] at h; omega)
      simp; omega

theorem tm (x : Int) : (x.tmod 10).natAbs = x.natAbs % 10 ∧ (x.tdiv 10).natAbs = x.natAbs / 10 := by
  rw [Int.natAbs_tmod, Int.natAbs_tdiv]; exact ⟨rfl, rfl⟩
/-- What the loop ends with. -/
def fin (x0 : Int) (l : List Int) : Option ByteArray :=
  if (l.length : Int) = 0 then some ⟨#[48]⟩ else if x0 < 0 then (if 1 + (strOfNums l).size ≤ 9223372036854775807 then some ((⟨#[45]⟩ : ByteArray) ++ strOfNums l) else none) else some (strOfNums l)
theorem dec_loop (x0 : Int) : ∀ (d : Nat) (x3 : List Int) (x4 : Int), x4.natAbs < 10 ^ d → d ≤ 20 → x4.natAbs ≤ 9223372036854775808 → x3.length + d ≤ 1000 → spec_l01Dec.l0 (d + 1) x0 x3 x4 = fin x0 (dI x4.natAbs ++ x3) := by
  intro d
  induction d with
  | zero =>
    intro x3 x4 h _ _ _
    have h0 : x4 = 0 := by simp at h; omega
    subst h0
    simp only [spec_l01Dec.l0, Int.natAbs_zero, dI_zero, List.nil_append, if_true, fin]
  | succ d ih =>
    intro x3 x4 h hd hb hl
    by_cases h0 : x4 = 0
    · subst h0
      simp only [spec_l01Dec.l0, Int.natAbs_zero, dI_zero, List.nil_append, if_true, fin]
    · have hn : x4.natAbs ≠ 0 := by omega
      obtain ⟨t1, t2⟩ := tm x4
      have hw : wrap64 (x4.tdiv 10) = x4.tdiv 10 := by unfold wrap64; omega
      have hr := ih (((48 + x4.natAbs % 10 : Nat) : Int) :: x3) (x4.tdiv 10) (by rw [t2]; rw [Nat.pow_succ] at h; omega) (by omega) (by omega) (by simp; omega)
      rw [t2] at hr
      have hgoal : spec_l01Dec.l0 (d + 1) x0 (((48 + x4.natAbs % 10 : Nat) : Int) :: x3) (wrap64 (x4.tdiv 10)) = fin x0 (dI x4.natAbs ++ x3) := by
        rw [hw, hr, dI_pos hn, List.append_assoc]; rfl
      rw [spec_l01Dec.l0, if_neg h0]
      by_cases hs : x4.tmod 10 < 0
      · rw [if_pos hs]
        have e : (wrap64 (48 + wrap64 (-(x4.tmod 10)))) % 256 = ((48 + x4.natAbs % 10 : Nat) : Int) := by unfold wrap64; omega
        simp only [Option.bind_some, e, List.length_singleton, List.singleton_append]
        rw [if_pos (by omega)]
        exact hgoal
      · rw [if_neg hs]
        have e : (wrap64 (48 + x4.tmod 10)) % 256 = ((48 + x4.natAbs % 10 : Nat) : Int) := by unfold wrap64; omega
        simp only [Option.bind_some, e, List.length_singleton, List.singleton_append]
        rw [if_pos (by omega)]
        exact hgoal
theorem ba_mk (a b : List UInt8) : (⟨a.toArray⟩ : ByteArray) ++ ⟨b.toArray⟩ = ⟨(a ++ b).toArray⟩ := by
  rw [ByteArray.mk_append_mk]
/-- The specification's numeral is Go's. -/
theorem dec_itoa (n : Int) (h0 : -9223372036854775808 ≤ n) (h1 : n ≤ 9223372036854775807) : spec_l01Dec.f 21 n = some ⟨(Lib.itoa n).toArray⟩ := by
  unfold spec_l01Dec.f
  rw [dec_loop n 20 [] n (by omega) (by omega) (by omega) (by simp), List.append_nil]
  unfold fin
  have hlen := dI_len 20 n.natAbs (by omega)
  by_cases hz : n = 0
  · subst hz
    rw [Int.natAbs_zero, dI_zero]
    rw [if_pos (show ((([] : List Int).length : Nat) : Int) = 0 from rfl)]
    unfold Lib.itoa
    rw [if_neg (by decide), Lib.decDigits]
    rfl
  · have hn : n.natAbs ≠ 0 := by omega
    have hne : ¬ ((dI n.natAbs).length : Int) = 0 := by rw [dI_pos hn]; simp; omega
    rw [if_neg hne]
    have hs : strOfNums (dI n.natAbs) = ⟨(Lib.decDigits n.natAbs).toArray⟩ := by unfold strOfNums; rw [dI_dec _ hn]
    unfold Lib.itoa
    by_cases hneg : n < 0
    · rw [if_pos hneg, if_pos hneg, if_pos (by rw [strOfNums_size]; omega), hs]
      exact congrArg some (ba_mk [45] _)
    · rw [if_neg hneg, if_neg hneg, hs, show n.toNat = n.natAbs by omega]

/-! ### digits with zeros ahead -/
def pad : Nat → Nat → List UInt8
  | 0, _ => []
  | d + 1, m => pad d (m / 10) ++ [UInt8.ofNat (48 + m % 10)]
theorem rep_snoc (c : Nat) : Lib.repeatL [48] c ++ [48] = Lib.repeatL [48] (c + 1) := by
  induction c with
  | zero => rfl
  | succ c ih =>
    show ([48] ++ Lib.repeatL [48] c) ++ [48] = [48] ++ Lib.repeatL [48] (c + 1)
    rw [List.append_assoc, ih]
theorem pad_dec : ∀ (d m : Nat), m < 10 ^ (d + 1) → (Lib.decDigits m).length ≤ d + 1 ∧ pad (d + 1) m = Lib.repeatL [48] (d + 1 - (Lib.decDigits m).length) ++ Lib.decDigits m := by
  intro d
  induction d with
  | zero =>
    intro m h
    have h1 : m < 10 := by simpa using h
    rw [Lib.decDigits, dif_pos h1]
    refine ⟨by simp, ?_⟩
    simp only [pad, List.nil_append, List.length_singleton, show m % 10 = m by omega]
    rfl
  | succ d ih =>
    intro m h
    obtain ⟨i1, i2⟩ := ih (m / 10) (by rw [Nat.pow_succ] at h; omega)
    show (Lib.decDigits m).length ≤ d + 1 + 1 ∧ pad (d + 1) (m / 10) ++ [UInt8.ofNat (48 + m % 10)] = _
    by_cases h1 : m < 10
    · have hz : m / 10 = 0 := by omega
      rw [i2, hz]
      have e0 : Lib.decDigits 0 = [48] := Lib.decDigits_one (by decide)
      have e1 : Lib.decDigits m = [UInt8.ofNat (48 + m)] := Lib.decDigits_one h1
      rw [e0, e1]
      refine ⟨by simp, ?_⟩
      simp only [List.length_singleton, Nat.add_sub_cancel, show m % 10 = m by omega]
      rw [rep_snoc d]
    · rw [Lib.decDigits, dif_neg h1]
      refine ⟨by simp; omega, ?_⟩
      rw [i2, List.length_append, List.length_singleton, List.append_assoc, show d + 1 + 1 - ((Lib.decDigits (m / 10)).length + 1) = d + 1 - (Lib.decDigits (m / 10)).length by omega]
theorem dig_loop : ∀ (d m : Nat) (l : List UInt8), l.length + d ≤ 1000 → m ≤ 9223372036854775807 → spec_l11Digits.l0 (d + 1) (m : Int) (d : Int) ⟨l.toArray⟩ = some ⟨(pad d m ++ l).toArray⟩ := by
  intro d
  induction d with
  | zero => intro m l _ _; simp only [spec_l11Digits.l0, pad, List.nil_append]; rfl
  | succ d ih =>
    intro m l hl hm
    rw [spec_l11Digits.l0, if_pos (by omega)]
    have e : (wrap64 (48 + Int.tmod (m : Int) 10)) % 256 = ((48 + m % 10 : Nat) : Int) := by
      have : Int.tmod (m : Int) 10 = ((m % 10 : Nat) : Int) := rfl
      rw [this]; unfold wrap64; omega
    have e2 : wrap64 (Int.tdiv (m : Int) 10) = ((m / 10 : Nat) : Int) := by
      have : Int.tdiv (m : Int) 10 = ((m / 10 : Nat) : Int) := rfl
      rw [this]; unfold wrap64; omega
    have e3 : wrap64 (((d + 1 : Nat) : Int) - 1) = (d : Int) := by unfold wrap64; omega
    have e4 : strOfNums [((48 + m % 10 : Nat) : Int)] = ⟨[UInt8.ofNat (48 + m % 10)].toArray⟩ := by
      unfold strOfNums; simp only [List.map_cons, List.map_nil, Int.toNat_natCast]
    simp only [Option.bind_some, e, e2, e3, e4, ba_mk]
    rw [if_pos (by simp [ByteArray.size]; omega), ih (m / 10) _ (by simp; omega) (by omega)]
    show _ = some (⟨((pad d (m / 10) ++ [UInt8.ofNat (48 + m % 10)]) ++ l).toArray⟩ : ByteArray)
    rw [List.append_assoc]
/-- Seven digits. -/
theorem digits7 (x : Int) (h0 : 0 ≤ x) (h1 : x < 10000000) : (Lib.itoa x).length ≤ 7 ∧ spec_l11Digits.f 8 x 7 = some ⟨(Lib.repeatL [48] (7 - (Lib.itoa x).length) ++ Lib.itoa x).toArray⟩ := by
  obtain ⟨m, rfl⟩ : ∃ m : Nat, x = m := ⟨x.toNat, by omega⟩
  have hi : Lib.itoa (m : Int) = Lib.decDigits m := by unfold Lib.itoa; rw [if_neg (by omega), Int.toNat_natCast]
  obtain ⟨p1, p2⟩ := pad_dec 6 m (by omega)
  rw [hi]
  refine ⟨p1, ?_⟩
  have := dig_loop 7 m [] (by simp) (by omega)
  rw [List.append_nil, p2] at this
  exact this
theorem itoa_len (n : Int) (h0 : -9223372036854775808 ≤ n) (h1 : n ≤ 9223372036854775807) : (Lib.itoa n).length ≤ 21 := by
  have key : ∀ m : Nat, m ≤ 9223372036854775808 → (Lib.decDigits m).length ≤ 20 := fun m hm => (pad_dec 19 m (by omega)).1
  unfold Lib.itoa
  split
  · have := key n.natAbs (by omega); simp; omega
  · have := key n.toNat (by omega); omega
end Go.Proofs.YtegdoadciojpaaaGreatDoor.Pp
