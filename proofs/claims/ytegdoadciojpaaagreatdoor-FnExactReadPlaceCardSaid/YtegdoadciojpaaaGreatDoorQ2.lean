/-
  Plain laws: the specification's texts of angles, written and read.
-/
import Derived.Test.YtegdoadciojpaaaGreatDoorX1
import Derived.Test.YtegdoadciojpaaaGreatDoorQ1
namespace Go.Proofs.YtegdoadciojpaaaGreatDoor.Rt
open Go Go.RowKit Go.Lib Go.Proofs.YtegdoadciojpaaaGreatDoor.Rq Go.Proofs.YtegdoadciojpaaaGreatDoor.Rp Go.Proofs.YtegdoadciojpaaaGreatDoor.Pr Go.Proofs.YtegdoadciojpaaaGreatDoorW.PrintWords Go.Proofs.YtegdoadciojpaaaGreatDoorW.PrintLast Go.Proofs.YtegdoadciojpaaaGreatDoorW.PrintMore
set_option linter.unusedVariables false
set_option linter.unusedSimpArgs false
theorem dgL_inj {n m : Int} (n0 : -10000000000000000 < n) (n1 : n < 10000000000000000) (m0 : -10000000000000000 < m) (m1 : m < 10000000000000000) (h : dgL n = dgL m) : n = m := by
  obtain ⟨U, P, _, u, p, u1, u9, p7, hv, hc, _⟩ := dgL_cut n n0 n1
  obtain ⟨U', P', _, u', p', u1', u9', p7', hv', hc', _⟩ := dgL_cut m m0 m1
  rw [h, hc'] at hc
  simp only [Prod.mk.injEq, and_true] at hc
  obtain ⟨e1, e2⟩ := hc
  subst e2
  have no : ∀ {V : List UInt8}, V.all isDig = true → ∀ V', V ≠ 45 :: V' := fun hV V' e => by rw [e] at hV; simp [isDig] at hV
  by_cases hn : n < 0 <;> by_cases hm : m < 0
  · rw [if_pos hn, if_pos hm] at e1
    injection e1 with _ e1
    subst e1
    omega
  · rw [if_pos hn, if_neg hm] at e1
    exact absurd e1 (no u' _)
  · rw [if_neg hn, if_pos hm] at e1
    exact absurd e1.symm (no u _)
  · rw [if_neg hn, if_neg hm] at e1
    subst e1
    omega
theorem digs_f {k : Nat} (hk : 8 ≤ k) (x : Int) (h0 : 0 ≤ x) (h1 : x < 10000000) : spec_l11Digits.f k x 7 = some ⟨(padL x).toArray⟩ :=
  mono_to (f := fun k => spec_l11Digits.f k x 7) (fun k => spec_l11Digits.mono x 7 k) hk (Pp.digits7 x h0 h1).2
theorem mk_size (l : List UInt8) : (⟨l.toArray⟩ : ByteArray).size = l.length := by simp [ByteArray.size]
theorem text_f {k : Nat} (hk : 21 ≤ k) (n : Int) (h0 : -1000000000000000000 < n) (h1 : n < 1000000000000000000) : spec_l11Text.f k n = some ⟨(dgL n).toArray⟩ := by
  unfold spec_l11Text.f dgL
  have fin : ∀ (M : Int) (sg : List UInt8), 0 ≤ M → M < 1000000000000000000 → sg.length ≤ 1 → ((spec_l01Dec.f k (wrap64 (Int.tdiv M 10000000))).bind fun t128 => (if sg.length + t128.size ≤ 9223372036854775807 then (if ((⟨sg.toArray⟩ : ByteArray) ++ t128).size + 1 ≤ 9223372036854775807 then ((spec_l11Digits.f k (Int.tmod M 10000000) 7).bind fun t129 => (if (((⟨sg.toArray⟩ : ByteArray) ++ t128) ++ (⟨#[46]⟩ : ByteArray)).size + t129.size ≤ 9223372036854775807 then (some ((((⟨sg.toArray⟩ : ByteArray) ++ t128) ++ (⟨#[46]⟩ : ByteArray)) ++ t129)) else (none))) else (none)) else (none))) = some ⟨(sg ++ absL M).toArray⟩ := by
    intro M sg hM0 hM1 hsg
    have q0 : 0 ≤ M.tdiv 10000000 := Int.tdiv_nonneg hM0 (by decide)
    have q1 : M.tdiv 10000000 ≤ M := by rw [Int.tdiv_eq_ediv_of_nonneg hM0]; omega
    have r0 : 0 ≤ M.tmod 10000000 := Int.tmod_nonneg _ hM0
    have r1 : M.tmod 10000000 < 10000000 := Int.tmod_lt_of_pos _ (by decide)
    have l1 := Pp.itoa_len (M.tdiv 10000000) (by omega) (by omega)
    have l2 : (padL (M.tmod 10000000)).length = 7 := by
      obtain ⟨r, hr⟩ := Int.eq_ofNat_of_zero_le r0
      rw [hr]; exact (padL_facts r (by omega)).1
    rw [wid (by omega) (by omega), dec_f hk _ (by omega) (by omega), Option.bind_some, if_pos (by rw [mk_size]; omega), Pp.ba_mk, if_pos (by rw [mk_size, List.length_append]; omega), digs_f (by omega) _ r0 r1, Option.bind_some, show (⟨#[46]⟩ : ByteArray) = ⟨[46].toArray⟩ from rfl, Pp.ba_mk, if_pos (by rw [mk_size, mk_size, List.length_append, List.length_append, l2]; simp; omega), Pp.ba_mk]
    unfold absL
    simp
  by_cases hn : n < 0
  · rw [if_pos hn, if_pos hn, wid (n := -n) (by omega) (by omega)]
    exact fin (-n) [45] (by omega) (by omega) (by decide)
  · rw [if_neg hn, if_neg hn]
    exact fin n [] (by omega) (by omega) (by decide)
/-- The digits of the first bytes. -/
def dl (s : ByteArray) (i : Nat) : List UInt8 := (s.data.toList.take i).filter isDig
/-- What the reading ends with. -/
def finR (k : Nat) (x0 : ByteArray) (x4 x5 : Int) : Option (Int × Bool) := (if x5 = 0 then (some (0, false)) else (if 0 < (x0.size : Int) then (if (bt x0 0) = 45 then ((spec_l11Text.f k (wrap64 (-x4))).bind fun t132 => (some (wrap64 (-x4), (t132.toList == x0.toList)))) else ((spec_l11Text.f k x4).bind fun t133 => (some (x4, (t133.toList == x0.toList))))) else (none)))
theorem l0_eq (k : Nat) (x0 : ByteArray) (x4 x5 x6 : Int) : spec_l11Read.l0 (k + 1) x0 x4 x5 x6 = if x6 < (x0.size : Int) then (spec_l11Read.j1 k x0 x4 x5 x6 (decide (x6 < 14))) else (spec_l11Read.j1 k x0 x4 x5 x6 false) := by rw [spec_l11Read.l0]
theorem j1_fin (k : Nat) (x0 : ByteArray) (x4 x5 x6 : Int) : spec_l11Read.j1 (k + 1) x0 x4 x5 x6 false = finR k x0 x4 x5 := by rw [spec_l11Read.j1]; rfl
theorem j1_go (k : Nat) (x0 : ByteArray) (x4 x5 x6 : Int) (h0 : 0 ≤ x6) (h1 : x6 < (x0.size : Int)) : spec_l11Read.j1 (k + 1) x0 x4 x5 x6 true = (if (bt x0 x6) ≥ 48 then (if (bt x0 x6) ≤ 57 then (spec_l11Read.l0 k x0 (wrap64 ((wrap64 (10 * x4)) + (((bt x0 x6) - 48) % 256))) (wrap64 (x5 + 1)) (wrap64 (x6 + 1))) else (spec_l11Read.l0 k x0 x4 x5 (wrap64 (x6 + 1)))) else (spec_l11Read.l0 k x0 x4 x5 (wrap64 (x6 + 1)))) := by
  rw [spec_l11Read.j1, if_pos rfl, if_pos h0, if_pos h1]
theorem dl_all (s : ByteArray) (i : Nat) : (dl s i).all isDig = true := by unfold dl; simp [List.all_filter]
theorem dl_len (s : ByteArray) (i : Nat) : (dl s i).length ≤ i := by
  unfold dl
  refine Nat.le_trans (List.length_filter_le _ _) ?_
  rw [List.length_take]; omega
theorem dl_val (s : ByteArray) (i : Nat) (h : i ≤ 14) : Rp.val 0 (dl s i) < 100000000000000 := by
  have := val_lt (dl s i) 0 0 (dl_all s i) (by decide)
  have hp : 10 ^ (0 + (dl s i).length) ≤ 10 ^ 14 := Nat.pow_le_pow_right (by decide) (by have := dl_len s i; omega)
  exact Nat.lt_of_lt_of_le this hp
theorem read_loop (s : ByteArray) (hs : s.size ≤ 2000000) (K : Nat) : ∀ d i : Nat, i + d = min 14 s.size → spec_l11Read.l0 (K + 2 * d + 2) s ((Rp.val 0 (dl s i) : Nat) : Int) ((dl s i).length : Int) (i : Int) = finR K s ((Rp.val 0 (dl s (min 14 s.size)) : Nat) : Int) ((dl s (min 14 s.size)).length : Int)
  | 0, i, h => by
    rw [show i = min 14 s.size by omega]
    show spec_l11Read.l0 (K + 1 + 1) _ _ _ _ = _
    rw [l0_eq]
    by_cases hc : ((min 14 s.size : Nat) : Int) < (s.size : Int)
    · rw [if_pos hc, decide_eq_false (by omega)]; exact j1_fin K _ _ _ _
    · rw [if_neg hc]; exact j1_fin K _ _ _ _
  | d + 1, i, h => by
    have hi : i < s.data.toList.length := by show i < s.size; omega
    obtain ⟨c, r, hc⟩ : ∃ c r, s.data.toList.drop i = c :: r := ⟨_, _, List.drop_eq_getElem_cons hi⟩
    obtain ⟨b0, b1, b2, b3⟩ := bt_get hc
    have ih := read_loop s hs K d (i + 1) (by omega)
    have hv := dl_val s i (by omega)
    have hl := dl_len s i
    have w1 : wrap64 ((i : Int) + 1) = ((i + 1 : Nat) : Int) := by rw [wid (by omega) (by omega)]; omega
    show spec_l11Read.l0 (K + 2 * d + 2 + 1 + 1) _ _ _ _ = _
    rw [l0_eq, if_pos (by omega), decide_eq_true (by omega), j1_go _ _ _ _ _ (by omega) (by omega), b1, w1]
    by_cases hd : isDig c = true
    · have hd' := hd
      simp only [isDig, Bool.and_eq_true, decide_eq_true_eq] at hd'
      have e : dl s (i + 1) = dl s i ++ [c] := by unfold dl; rw [b3, List.filter_append]; simp [hd]
      rw [if_pos (by omega), if_pos (by omega)]
      rw [e, Rp.val_app, val_cons, List.length_append] at ih
      generalize Rp.val 0 (dl s i) = v at *
      have e1 : Rp.val (v * 10 + (c.toNat - 48)) [] = v * 10 + (c.toNat - 48) := by exact rfl
      rw [e1] at ih
      rw [wid (n := 10 * (v : Int)) (by omega) (by omega), wid (n := 10 * (v : Int) + ((c.toNat : Int) - 48) % 256) (by omega) (by omega), wid (by omega) (by omega), ← ih]
      congr 1
      omega
    · have hd' : ¬ (48 ≤ c.toNat ∧ c.toNat ≤ 57) := by simpa [isDig] using hd
      have e : dl s (i + 1) = dl s i := by unfold dl; rw [b3, List.filter_append]; simp [hd]
      rw [e] at ih
      by_cases h48 : (c.toNat : Int) ≥ 48
      · rw [if_pos h48, if_neg (by omega)]; exact ih
      · rw [if_neg h48]; exact ih
/-- What is read, whatever comes in. -/
theorem read_f (s : ByteArray) (hs : s.size ≤ 2000000) : ∃ (n : Int) (b : Bool), spec_l11Read.f 60 s = some (n, b) ∧ (-10000000000000000 < n ∧ n < 10000000000000000) ∧ (b = true → s.data.toList = dgL n) ∧ ∀ m : Int, -10000000000 < m → m < 10000000000 → s.data.toList = dgL m → n = m ∧ b = true := by
  unfold spec_l11Read.f
  have hl := read_loop s hs (58 - 2 * min 14 s.size) (min 14 s.size) 0 (by omega)
  rw [show 58 - 2 * min 14 s.size + 2 * min 14 s.size + 2 = 60 by omega, show dl s 0 = [] from rfl] at hl
  have e0 : spec_l11Read.l0 60 s 0 0 0 = finR (58 - 2 * min 14 s.size) s ((Rp.val 0 (dl s (min 14 s.size)) : Nat) : Int) ((dl s (min 14 s.size)).length : Int) := by rw [← hl]; rfl
  rw [e0]
  have hv := dl_val s (min 14 s.size) (by omega)
  obtain ⟨v, hve⟩ : ∃ v, Rp.val 0 (dl s (min 14 s.size)) = v := ⟨_, rfl⟩
  rw [hve] at hv ⊢
  -- what a text of an angle gives
  have back : ∀ m : Int, -10000000000 < m → m < 10000000000 → s.data.toList = dgL m → (v : Int) = m.natAbs ∧ (dl s (min 14 s.size)).length ≠ 0 ∧ 0 < s.size ∧ (bt s 0 = 45 ↔ m < 0) := by
    intro m m0 m1 e
    obtain ⟨U, P, u3, u, p, u1, u9, p7, hv', _, ed⟩ := dgL_cut m (by omega) (by omega)
    have u3 := u3 ⟨m0, m1⟩
    have hsz : s.size = (dgL m).length := by rw [← e]; rfl
    have hsz2 : (dgL m).length ≤ 12 := by
      rw [ed, List.length_append, List.length_cons]
      split
      · rw [List.length_cons]; omega
      · omega
    have hdl : dl s (min 14 s.size) = U ++ P := by
      have fu : U.filter isDig = U := List.filter_eq_self.2 (fun a ha => List.all_eq_true.1 u a ha)
      have fp : P.filter isDig = P := List.filter_eq_self.2 (fun a ha => List.all_eq_true.1 p a ha)
      have f46 : (46 :: P).filter isDig = P := by rw [List.filter_cons_of_neg (by decide), fp]
      have f45 : (45 :: U).filter isDig = U := by rw [List.filter_cons_of_neg (by decide), fu]
      unfold dl
      rw [e, List.take_of_length_le (by omega), ed, List.filter_append, f46]
      split
      · rw [f45]
      · rw [fu]
    rw [hdl] at hve ⊢
    refine ⟨by omega, by rw [List.length_append]; omega, by rw [hsz, ed, List.length_append, List.length_cons]; omega, ?_⟩
    have hdr : s.data.toList.drop 0 = dgL m := by rw [List.drop_zero, e]
    rw [ed] at hdr
    by_cases hm : m < 0
    · rw [if_pos hm, List.cons_append] at hdr
      have := (bt_get hdr).2.1
      simp only [hm, iff_true]
      rw [show ((0 : Nat) : Int) = 0 from rfl] at this
      rw [this]; rfl
    · rw [if_neg hm] at hdr
      cases U with
      | nil => simp at u1
      | cons c U =>
        rw [List.cons_append] at hdr
        have := (bt_get hdr).2.1
        rw [show ((0 : Nat) : Int) = 0 from rfl] at this
        simp only [List.all_cons, Bool.and_eq_true, isDig, decide_eq_true_eq] at u
        simp only [hm, iff_false]
        omega
  unfold finR
  by_cases h5 : ((dl s (min 14 s.size)).length : Int) = 0
  · rw [if_pos h5]
    refine ⟨0, false, rfl, by omega, (fun h => by cases h), fun m m0 m1 e => ?_⟩
    have := (back m m0 m1 e).2.1
    omega
  · rw [if_neg h5]
    have hpos : 0 < (s.size : Int) := by
      have := dl_len s (min 14 s.size)
      omega
    rw [if_pos hpos]
    by_cases h45 : bt s 0 = 45
    · rw [if_pos h45, wid (n := -(v : Int)) (by omega) (by omega), text_f (by omega) _ (by omega) (by omega), Option.bind_some]
      refine ⟨-(v : Int), _, rfl, by omega, fun h => ?_, fun m m0 m1 e => ?_⟩
      · have := eq_of_beq h
        rw [ByteArray.toList_eq, ByteArray.toList_eq] at this
        exact this.symm
      · obtain ⟨k1, _, _, k2⟩ := back m m0 m1 e
        have := k2.1 h45
        have hn : -(v : Int) = m := by omega
        refine ⟨hn, ?_⟩
        rw [beq_iff_eq, ByteArray.toList_eq, ByteArray.toList_eq, e, hn]
    · rw [if_neg h45, text_f (by omega) _ (by omega) (by omega), Option.bind_some]
      refine ⟨(v : Int), _, rfl, by omega, fun h => ?_, fun m m0 m1 e => ?_⟩
      · have := eq_of_beq h
        rw [ByteArray.toList_eq, ByteArray.toList_eq] at this
        exact this.symm
      · obtain ⟨k1, _, _, k2⟩ := back m m0 m1 e
        have := fun h => h45 (k2.2 h)
        have hn : (v : Int) = m := by omega
        refine ⟨hn, ?_⟩
        rw [beq_iff_eq, ByteArray.toList_eq, ByteArray.toList_eq, e, hn]
end Go.Proofs.YtegdoadciojpaaaGreatDoor.Rt
