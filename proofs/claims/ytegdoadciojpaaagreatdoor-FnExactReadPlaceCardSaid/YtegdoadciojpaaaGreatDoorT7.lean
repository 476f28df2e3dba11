/-
  Reading places: what the program reads is the place whose text came in.
-/
import Derived.Test.YtegdoadciojpaaaGreatDoorT6
import Derived.Test.YtegdoadciojpaaaGreatDoorQ2
namespace Go.Proofs.YtegdoadciojpaaaGreatDoor.Ev
open Go Go.RowKit Go.Proofs.YtegdoadciojpaaaGreatDoor.Rq Go.Proofs.YtegdoadciojpaaaGreatDoor.Rt
set_option maxRecDepth 100000
set_option linter.unusedVariables false
set_option linter.unusedSimpArgs false
theorem i64_ext {a b : I64} (h : a.val = b.val) : a = b := by
  cases a; cases b; cases h; rfl
theorem vp_iff (p : Point) : F_impl_ValidPoint p = true ↔ (-900000000 ≤ p.lat.val ∧ p.lat.val ≤ 900000000) ∧ (-1800000000 < p.lon.val ∧ p.lon.val ≤ 1800000000) := by
  simp only [F_impl_ValidPoint, t_impl_ValidPoint, Tr.get, F_impl_within, t_impl_within]
  by_cases h1 : -900000000 ≤ p.lat.val <;> by_cases h2 : p.lat.val ≤ 900000000 <;> by_cases h3 : -1800000000 < p.lon.val <;> simp [h1, h2, h3]
theorem vl_iff (p : Place) : F_impl_ValidPlace p = true ↔ F_impl_ValidPoint p.pt = true ∧ (-20000000 ≤ p.h.val ∧ p.h.val ≤ 20000000000) := by
  simp only [F_impl_ValidPlace, t_impl_ValidPlace, Tr.get, F_impl_isHeight, t_impl_isHeight, F_impl_within, t_impl_within]
  cases F_impl_ValidPoint p.pt <;> by_cases h1 : -20000000 ≤ p.h.val <;> by_cases h2 : p.h.val ≤ 20000000000 <;> simp [h1, h2]
def ptL (p : Point) : List UInt8 := dgL p.lat.val ++ 32 :: dgL p.lon.val
def plL (p : Place) : List UInt8 := ptL p.pt ++ 32 :: Lib.itoa p.h.val
theorem dgL_ne (n : Int) : dgL n ≠ [] := by
  unfold dgL absL
  split <;> simp
theorem dgR_of {s : ByteArray} {n : Int} (h0 : -10000000000000000 < n) (h1 : n < 10000000000000000) (e : s.data.toList = dgL n) : dgR s = some n := by
  cases h : dgR s with
  | none =>
    unfold dgR at h
    rw [dif_pos ⟨n, h0, h1, e⟩] at h
    cases h
  | some m =>
    obtain ⟨k1, k2, k3⟩ := dgR_some h
    rw [dgL_inj h0 h1 k2 k3 (e.symm.trans k1)]
structure OkPt (t : ByteArray) (r : T2 Point Bool) : Prop where
  yes : r.b = true → t.data.toList = ptL r.a ∧ F_impl_ValidPoint r.a = true
  no : r.b = false → r.a = pt0
  back : ∀ p : Point, F_impl_ValidPoint p = true → t.data.toList = ptL p → r.b = true ∧ r.a = p
theorem dg_some {s : ByteArray} (h : dgB s = true) : s.data.toList = dgL (dgI s).val := by
  unfold dgB at h
  cases k : dgR s with
  | none => rw [k] at h; cases h
  | some n => rw [dgI_val, k]; exact (dgR_some k).1
theorem pt_ok (t : ByteArray) : OkPt t (rpF t) := by
  have hc1 : (c1 t bl).data.toList = (Lib.cut t.data.toList [32]).1 := rfl
  have hc2 : (c2 t bl).data.toList = (Lib.cut t.data.toList [32]).2.1 := rfl
  refine ⟨fun h => ?_, fun h => ?_, fun p hp e => ?_⟩
  · unfold rpF at h ⊢
    cases b1 : dgB (c1 t bl) with
    | false => rw [b1] at h; cases h
    | true => cases b2 : dgB (c2 t bl) with
      | false => rw [b1, b2] at h; cases h
      | true => cases b3 : F_impl_ValidPoint (ptOf t) with
        | false => rw [b1, b2, b3] at h; cases h
        | true =>
          refine ⟨?_, b3⟩
          have e1 := dg_some b1
          have e2 := dg_some b2
          rw [hc1] at e1
          rw [hc2] at e2
          show t.data.toList = dgL (dgI (c1 t bl)).val ++ 32 :: dgL (dgI (c2 t bl)).val
          rcases cut_spec 32 t.data.toList with ⟨_, k⟩ | ⟨_, _, k⟩
          · rw [← e1, ← e2]; exact k
          · rw [k] at e2; exact absurd e2.symm (dgL_ne _)
  · unfold rpF at h ⊢
    cases b1 : dgB (c1 t bl) with
    | false => rfl
    | true => cases b2 : dgB (c2 t bl) with
      | false => rfl
      | true => cases b3 : F_impl_ValidPoint (ptOf t) with
        | false => rfl
        | true => rw [b1, b2, b3] at h; cases h
  · have hv := (vp_iff p).1 hp
    have hw := cut_word (c := 32) (dgL p.lat.val) (dgL p.lon.val) (dgL_noblank _ (by omega) (by omega))
    rw [show dgL p.lat.val ++ 32 :: dgL p.lon.val = t.data.toList from e.symm] at hw
    rw [hw] at hc1 hc2
    have r1 := dgR_of (by omega) (by omega) hc1
    have r2 := dgR_of (by omega) (by omega) hc2
    have b1 : dgB (c1 t bl) = true := by unfold dgB; rw [r1]; rfl
    have b2 : dgB (c2 t bl) = true := by unfold dgB; rw [r2]; rfl
    have i1 : dgI (c1 t bl) = p.lat := i64_ext (by rw [dgI_val, r1]; rfl)
    have i2 : dgI (c2 t bl) = p.lon := i64_ext (by rw [dgI_val, r2]; rfl)
    have i3 : ptOf t = p := by unfold ptOf; rw [i1, i2]
    unfold rpF
    rw [b1, b2, i3, hp]
    exact ⟨rfl, rfl⟩
structure OkPl (s : ByteArray) (r : T2 Place Bool) : Prop where
  yes : r.b = true → s.data.toList = plL r.a ∧ F_impl_ValidPlace r.a = true
  no : r.b = false → r.a = pl0
  back : ∀ p : Place, F_impl_ValidPlace p = true → s.data.toList = plL p → r.b = true ∧ r.a = p
theorem okPl_one {s : ByteArray} {r r' : T2 Place Bool} (h : OkPl s r) (h' : OkPl s r') : r = r' := by
  obtain ⟨a, b⟩ := r
  obtain ⟨a', b'⟩ := r'
  cases b with
  | true =>
    obtain ⟨e, v⟩ := h.yes rfl
    obtain ⟨k1, k2⟩ := h'.back _ v e
    cases k1; cases k2; rfl
  | false => cases b' with
    | true =>
      obtain ⟨e, v⟩ := h'.yes rfl
      obtain ⟨k1, _⟩ := h.back _ v e
      cases k1
    | false =>
      have k1 := h.no rfl
      have k2 := h'.no rfl
      cases k1; cases k2; rfl
noncomputable def iF (s : ByteArray) : T2 Place Bool := bif decide ((ix s).val < 0) then ⟨pl0, false⟩ else bif !(rpF (s1 s)).b then ⟨pl0, false⟩ else bif !(rdB (s2 s)) then ⟨pl0, false⟩ else bif !(F_impl_ValidPlace (plOf s)) then ⟨pl0, false⟩ else ⟨plOf s, true⟩
theorem ext_list (s : ByteArray) (a b : Nat) : (s.extract a b).data.toList = (s.data.toList.take b).drop a := by rw [Lib.extract_data, List.drop_take]
theorem ix_spec (s : ByteArray) (hs : s.size ≤ 2000000) : ((ix s).val = -1 ∧ (32 : UInt8) ∉ s.data.toList) ∨ ∃ i : Nat, (ix s).val = i ∧ i < s.size ∧ s.data.toList[i]? = some 32 ∧ ∀ j : Nat, i < j → s.data.toList[j]? ≠ some 32 := by
  have hv : (ix s).val = Lib.lastIndexByte s 32 := liI_val s sp8 hs
  have hb : ∀ j : Nat, j < s.size → ∃ c : UInt8, s.data.toList[j]? = some c ∧ (s.data[j]!) = c := fun j hj => by
    refine ⟨s.data[j]!, ?_, rfl⟩
    rw [Array.getElem?_toList, getElem!_pos s.data j hj, Array.getElem?_eq_getElem hj]
  have ht : ∀ c : UInt8, (c.toNat : Int) = 32 → c = 32 := fun c h => UInt8.toNat.inj (show c.toNat = (32 : UInt8).toNat by have : (32 : UInt8).toNat = 32 := rfl; omega)
  rcases Lib.lastIndexByte_spec s 32 with ⟨k1, k2⟩ | ⟨i, k1, k2, k3, k4⟩
  · refine .inl ⟨by rw [hv, k1], fun hm => ?_⟩
    obtain ⟨j, hj, e⟩ := List.getElem_of_mem hm
    obtain ⟨c, e1, e2⟩ := hb j hj
    rw [List.getElem?_eq_getElem hj, e] at e1
    cases e1
    exact k2 j hj (by rw [e2]; rfl)
  · refine .inr ⟨i, by rw [hv, k2], k1, ?_, fun j hj e => ?_⟩
    · obtain ⟨c, e1, e2⟩ := hb i k1
      rw [e1, ht c (by rw [← e2]; exact k3)]
    · have hjs : j < s.size := by
        rcases Nat.lt_or_ge j s.size with k | k
        · exact k
        · rw [List.getElem?_eq_none (show s.data.toList.length ≤ j from k)] at e; cases e
      obtain ⟨c, e1, e2⟩ := hb j hjs
      rw [e1] at e
      cases e
      exact k4 j hj hjs (by rw [e2]; rfl)
theorem r5_iF (s : ByteArray) (hs : s.size ≤ 1048576) : Tb5.run B5 [enc s] (T2 Place Bool) = some (iF s) := by
  rw [r5, show gSize s = true from decide_eq_true (by omega)]
  simp only [cond_true]
  unfold iF
  have hz : ∀ t : ByteArray, t.size ≤ 2000000 → gSize t = true := fun t h => decide_eq_true h
  have hl : s.data.toList.length = s.size := rfl
  rcases ix_spec s (by omega) with ⟨k, _⟩ | ⟨i, k, hi, _⟩
  · rw [show decide ((ix s).val < 0) = true from decide_eq_true (by omega)]; rfl
  · rw [show decide ((ix s).val < 0) = false from decide_eq_false (by omega)]
    have hj : (jx s).val = ((i + 1 : Nat) : Int) := by
      unfold jx
      rw [wi (by omega) (by omega)]; omega
    have z1 : (s1 s).size ≤ s.size := by
      show (s.extract _ _).data.toList.length ≤ s.size
      rw [ext_list, List.length_drop, List.length_take]; omega
    have z2 : (s2 s).size ≤ s.size := by
      show (s.extract _ _).data.toList.length ≤ s.size
      rw [ext_list, List.length_drop, List.length_take]; omega
    have hp : gPt (s1 s) = true := by
      have hc := cut_len 32 (s1 s).data.toList
      rw [show (s1 s).data.toList.length = (s1 s).size from rfl] at hc
      unfold gPt
      rw [hz _ (by omega), hz (c1 (s1 s) bl) (by show (Lib.cut (s1 s).data.toList [32]).1.length ≤ _; omega), hz (c2 (s1 s) bl) (by show (Lib.cut (s1 s).data.toList [32]).2.1.length ≤ _; omega)]
      rfl
    rw [show (decide (0 ≤ (ix s).val) && decide ((ix s).val ≤ (s.size : Int))) = true from by simp; omega, hp, show (decide (0 ≤ (jx s).val) && decide ((jx s).val ≤ (s.size : Int))) = true from by simp; omega, hz (s2 s) (by omega)]
    simp only [cond_true, cond_false]
    cases (rpF (s1 s)).b <;> cases rdB (s2 s) <;> cases F_impl_ValidPlace (plOf s) <;> rfl
theorem num_of {n : Int} (h0 : -20000000 ≤ n) (h1 : n ≤ 20000000000) {t : ByteArray} (e : t.data.toList = Lib.itoa n) : rdV t = n ∧ rdB t = true := by
  refine rd_some (numL_of (by omega) (by omega) e.symm ?_)
  rw [e]
  by_cases hn : n < 0
  · rw [Rp.itoa_ng hn, un_neg]
    have := (Pp.pad_dec 11 n.natAbs (by show _ < 1000000000000; omega)).1
    omega
  · have h2 := itoa_le 11 n.toNat (by show _ < 1000000000000; omega)
    rw [show ((n.toNat : Nat) : Int) = n by omega] at h2
    have h3 : (un (Lib.itoa n)).length ≤ (Lib.itoa n).length := by
      show (Lib.trimPrefix _ _).length ≤ _
      unfold Lib.trimPrefix
      split
      · simp
      · exact Nat.le_refl _
    omega
theorem num_some {t : ByteArray} (h : rdB t = true) : t.data.toList = Lib.itoa (rdV t) := by
  unfold rdB rdV at *
  cases k : numL t.data.toList with
  | none => rw [k] at h; cases h
  | some v => exact (numL_some k).1
theorem iF_ok (s : ByteArray) (hs : s.size ≤ 1048576) : OkPl s (iF s) := by
  have hp := pt_ok (s1 s)
  have hl : s.data.toList.length = s.size := rfl
  -- the parts, where there is a blank
  have parts : ∀ i : Nat, (ix s).val = i → i < s.size → s.data.toList[i]? = some 32 → (s1 s).data.toList = s.data.toList.take i ∧ (s2 s).data.toList = s.data.toList.drop (i + 1) ∧ s.data.toList = s.data.toList.take i ++ 32 :: s.data.toList.drop (i + 1) := by
    intro i k hi he
    have hj : (jx s).val = ((i + 1 : Nat) : Int) := by
      unfold jx
      rw [wi (by omega) (by omega)]; omega
    refine ⟨?_, ?_, ?_⟩
    · show (s.extract _ _).data.toList = _
      rw [ext_list, k]; rfl
    · show (s.extract _ _).data.toList = _
      rw [ext_list, hj, List.take_of_length_le (by omega)]; rfl
    · have h1 := List.drop_eq_getElem_cons (l := s.data.toList) (i := i) (by omega)
      rw [List.getElem?_eq_getElem (by omega)] at he
      rw [Option.some.inj he] at h1
      rw [← h1, List.take_append_drop]
  refine ⟨fun h => ?_, fun h => ?_, fun p hpv e => ?_⟩
  · rcases ix_spec s (by omega) with ⟨k, _⟩ | ⟨i, k, hi, he, _⟩
    · unfold iF at h
      rw [show decide ((ix s).val < 0) = true from decide_eq_true (by omega)] at h
      cases h
    · unfold iF at h ⊢
      rw [show decide ((ix s).val < 0) = false from decide_eq_false (by omega)] at h ⊢
      cases b1 : (rpF (s1 s)).b with
      | false => rw [b1] at h; cases h
      | true => cases b2 : rdB (s2 s) with
        | false => rw [b1, b2] at h; cases h
        | true => cases b3 : F_impl_ValidPlace (plOf s) with
          | false => rw [b1, b2, b3] at h; cases h
          | true =>
            refine ⟨?_, b3⟩
            obtain ⟨q1, q2, q3⟩ := parts i k hi he
            have e1 := (hp.yes b1).1
            have e2 := num_some b2
            show s.data.toList = ptL (rpF (s1 s)).a ++ 32 :: Lib.itoa (rdI (s2 s)).val
            rw [rdI_val, ← e2, ← e1, q1, q2]
            exact q3
  · unfold iF at h ⊢
    cases b0 : decide ((ix s).val < 0) with
    | true => rfl
    | false => cases b1 : (rpF (s1 s)).b with
      | false => rfl
      | true => cases b2 : rdB (s2 s) with
        | false => rfl
        | true => cases b3 : F_impl_ValidPlace (plOf s) with
          | false => rfl
          | true => rw [b0, b1, b2, b3] at h; cases h
  · obtain ⟨v1, v2⟩ := (vl_iff p).1 hpv
    rcases ix_spec s (by omega) with ⟨_, k⟩ | ⟨i, k, hi, he, ha⟩
    · exact absurd (show (32 : UInt8) ∈ s.data.toList by rw [e]; unfold plL; simp) k
    · obtain ⟨q1, q2, q3⟩ := parts i k hi he
      have hnb := Rp.itoa_noblank p.h.val
      have hi2 : i = (ptL p.pt).length := by
        have hat : s.data.toList[(ptL p.pt).length]? = some 32 := by
          rw [e]; unfold plL
          rw [List.getElem?_append_right (Nat.le_refl _), Nat.sub_self]; rfl
        rcases Nat.lt_trichotomy i (ptL p.pt).length with c | c | c
        · exact absurd hat (ha _ c)
        · exact c
        · exfalso
          rw [e] at he
          unfold plL at he
          rw [List.getElem?_append_right (by omega), show i - (ptL p.pt).length = (i - (ptL p.pt).length - 1) + 1 by omega, List.getElem?_cons_succ] at he
          exact hnb (List.mem_of_getElem? he)
      have t1 : (s1 s).data.toList = ptL p.pt := by rw [q1, e, hi2]; unfold plL; simp
      have t2 : (s2 s).data.toList = Lib.itoa p.h.val := by
        rw [q2, e, hi2]; unfold plL
        rw [List.drop_append, List.drop_eq_nil_of_le (by omega), show (ptL p.pt).length + 1 - (ptL p.pt).length = 1 by omega]; rfl
      obtain ⟨r1, r2⟩ := hp.back p.pt v1 t1
      obtain ⟨n1, n2⟩ := num_of v2.1 v2.2 t2
      have hpl : plOf s = p := by
        unfold plOf
        rw [r2, show rdI (s2 s) = p.h from i64_ext (by rw [rdI_val, n1])]
      unfold iF
      rw [show decide ((ix s).val < 0) = false from decide_eq_false (by omega), r1, n2, hpl, hpv]
      exact ⟨rfl, rfl⟩
end Go.Proofs.YtegdoadciojpaaaGreatDoor.Ev
