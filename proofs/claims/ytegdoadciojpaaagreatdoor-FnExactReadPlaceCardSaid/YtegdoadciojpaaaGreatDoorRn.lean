/-
  Plain laws: the specification's splitting and its numbers are Go's.
-/
import Derived.Test.YtegdoadciojpaaaGreatDoorPr
import Derived.Test.YtegdoadciojpaaaGreatDoorPp
import Derived.Test.YtegdoadciojpaaaGreatDoorRp
import Derived.Lib.ParseIntBTie
import Derived.Lib.SplitLaws
import Derived.WideShapes
namespace Go.Proofs.YtegdoadciojpaaaGreatDoor.Rq
open Go Go.RowKit Go.Lib Go.Proofs.YtegdoadciojpaaaGreatDoor.Pr Go.Proofs.YtegdoadciojpaaaGreatDoorW.PrintWords Go.Proofs.YtegdoadciojpaaaGreatDoorW.PrintLast Go.Proofs.YtegdoadciojpaaaGreatDoorW.PrintMore
open Go.Proofs.YtegdoadciojpaaaGreatDoor.Rp
set_option linter.unusedVariables false
set_option linter.unusedSimpArgs false
/-- The number that a text spells, of at most 18 digits. -/
def numL (l : List UInt8) : Option Int := match Lib.atoiAll l with
  | .ok v => if Lib.itoa v = l ∧ (Lib.trimPrefix l [45]).length ≤ 18 then some v else none
  | _ => none
def rdV (s : ByteArray) : Int := match numL s.data.toList with
  | some v => v
  | none => 0
def rdB (s : ByteArray) : Bool := (numL s.data.toList).isSome
theorem numL_ok {l : List UInt8} {v : Int} (h : Lib.atoiAll l = .ok v) : numL l = if Lib.itoa v = l ∧ (Lib.trimPrefix l [45]).length ≤ 18 then some v else none := by
  unfold numL; rw [h]
theorem numL_no {l : List UInt8} (h : ∀ v, Lib.atoiAll l ≠ .ok v) : numL l = none := by
  unfold numL
  split
  · rename_i v e; exact absurd e (h v)
  · rfl
theorem rdV_bd (s : ByteArray) : -9223372036854775808 ≤ rdV s ∧ rdV s ≤ 9223372036854775807 := by
  unfold rdV numL
  cases h : Lib.atoiAll s.data.toList
  · rename_i v
    have := Lib.atoiAll_bounds h
    simp only
    split
    · rename_i x e
      split at e
      · cases e; omega
      · cases e
    · omega
  · simp
  · simp
def wds (s : ByteArray) : List ByteArray := Lib.splitB ⟨#[32]⟩ 0 (Lib.countB s ⟨#[32]⟩) s
def wd (s : ByteArray) (i : Nat) : ByteArray := (wds s).getD i ByteArray.empty
theorem wds_len (s : ByteArray) : (wds s).length = Lib.countB s ⟨#[32]⟩ + 1 := Lib.splitB_all _ (by decide) 0 _ s rfl
theorem wid {n : Int} (h : -9223372036854775808 ≤ n) (k : n ≤ 9223372036854775807) : wrap64 n = n := by unfold wrap64; omega
theorem bt_get {s : ByteArray} {i : Nat} {c : UInt8} {r : List UInt8} (h : s.data.toList.drop i = c :: r) : i < s.size ∧ bt s (i : Int) = (c.toNat : Int) ∧ s.data.toList.drop (i + 1) = r ∧ s.data.toList.take (i + 1) = s.data.toList.take i ++ [c] := by
  have hl : i < s.data.toList.length := by
    rcases Nat.lt_or_ge i s.data.toList.length with k | k
    · exact k
    · rw [List.drop_eq_nil_of_le k] at h; cases h
  have e := List.drop_eq_getElem_cons hl
  rw [h] at e
  injection e with e1 e2
  refine ⟨hl, ?_, e2.symm, ?_⟩
  · unfold bt
    rw [dif_pos (by simpa using hl), e1]
    rfl
  · rw [List.take_succ_eq_append_getElem hl, e1]
theorem split_loop (s : ByteArray) (hs : s.size ≤ 2000000) : ∀ (d i a : Nat) (out : List ByteArray), i + d = s.size → a ≤ i → out.length ≤ i →
    ∃ L : List ByteArray, spec_l01Split.l0 (d + 1) s 32 out a i = some (out ++ L) ∧ L.map (·.data.toList) = (match sp (s.data.toList.drop i) with
      | p :: ps => ((s.data.toList.take i).drop a ++ p) :: ps
      | [] => []) := by
  have hlen : s.data.toList.length = s.size := rfl
  have ex : ∀ a b, (s.extract a b).data.toList = (s.data.toList.take b).drop a := fun a b => by rw [Lib.extract_data, List.drop_take]
  intro d
  induction d with
  | zero =>
    intro i a out hi ha ho
    refine ⟨[s.extract a s.size], ?_, ?_⟩
    · unfold spec_l01Split.l0
      rw [if_neg (by omega), if_pos (by omega), if_pos (by omega), if_pos (by omega)]
      simp
    · rw [List.drop_eq_nil_of_le (by omega)]
      simp only [List.map_cons, List.map_nil, ex, sp, List.append_nil]
      rw [show i = s.size by omega]
  | succ d ih =>
    intro i a out hi ha ho
    have hl : i < s.data.toList.length := by omega
    obtain ⟨c, r, hc⟩ : ∃ c r, s.data.toList.drop i = c :: r := ⟨_, _, List.drop_eq_getElem_cons hl⟩
    obtain ⟨_, b1, b2, b3⟩ := bt_get hc
    have w1 : wrap64 ((i : Int) + 1) = ((i + 1 : Nat) : Int) := by rw [wid (by omega) (by omega)]; omega
    by_cases h32 : c = 32
    · subst h32
      obtain ⟨L, e1, e2⟩ := ih (i + 1) (i + 1) (out ++ [s.extract a i]) (by omega) (Nat.le_refl _) (by simp; omega)
      refine ⟨s.extract a i :: L, ?_, ?_⟩
      · unfold spec_l01Split.l0
        rw [if_pos (by omega), if_pos (by omega), if_pos (by rw [b1]; rfl), if_pos (by omega), if_pos (by omega), if_pos (by omega), if_pos (by omega), w1]
        simp only [Int.toNat_natCast]
        rw [e1]; simp
      · rw [hc, sp, if_pos rfl, List.map_cons, e2, ex, b2]
        have hz : (s.data.toList.take (i + 1)).drop (i + 1) = [] := by simp
        rw [hz]
        have hne := sp_ne r
        generalize sp r = S at *
        cases S with
        | nil => exact absurd rfl hne
        | cons p ps => simp
    · obtain ⟨L, e1, e2⟩ := ih (i + 1) a out (by omega) (by omega) (by omega)
      refine ⟨L, ?_, ?_⟩
      · unfold spec_l01Split.l0
        have hne : ¬ bt s (i : Int) = 32 := fun k => h32 (by
          rw [b1] at k
          exact UInt8.toNat.inj (show c.toNat = (32 : UInt8).toNat by have : (32 : UInt8).toNat = 32 := rfl; omega))
        rw [if_pos (by omega), if_pos (by omega), if_neg hne, w1]
        exact e1
      · rw [hc, sp, if_neg h32, e2, b2, b3]
        have hne := sp_ne r
        generalize sp r = S at *
        cases S with
        | nil => exact absurd rfl hne
        | cons p ps =>
          simp only
          rw [List.drop_append_of_le_length (by rw [List.length_take]; omega)]
          simp
theorem map_inj : ∀ {L M : List ByteArray}, L.map (·.data.toList) = M.map (·.data.toList) → L = M
  | [], [], _ => rfl
  | [], _ :: _, h => by cases h
  | _ :: _, [], h => by cases h
  | a :: L, b :: M, h => by
    simp only [List.map_cons, List.cons.injEq] at h
    rw [Go.WideShapes.bytes_inj h.1, map_inj h.2]
theorem wds_sp (s : ByteArray) : (wds s).map (·.data.toList) = sp s.data.toList := by
  unfold wds
  rw [Lib.splitB_data]
  exact splitK_sp s.data.toList
theorem split_f {s : ByteArray} (hs : s.size ≤ 2000000) : spec_l01Split.f (s.size + 1) s 32 = some (wds s) := by
  unfold spec_l01Split.f
  obtain ⟨L, e1, e2⟩ := split_loop s hs s.size 0 0 [] (by omega) (Nat.le_refl _) (by simp)
  rw [show ((0 : Nat) : Int) = 0 from rfl] at e1
  rw [e1]
  have : L.map (·.data.toList) = (wds s).map (·.data.toList) := by
    rw [e2, wds_sp]
    have hne := sp_ne s.data.toList
    rw [List.drop_zero]
    generalize sp s.data.toList = S at *
    cases S with
    | nil => exact absurd rfl hne
    | cons p ps => simp
  rw [map_inj this]; rfl
theorem mono_to {α : Type} {f : Nat → Option α} (h : ∀ k, LeO (f k) (f (k + 1))) {k j : Nat} (hk : k ≤ j) {r : α} (e : f k = some r) : f j = some r := by
  induction j with
  | zero => rw [show k = 0 by omega] at e; exact e
  | succ j ih =>
    by_cases c : k = j + 1
    · rw [← c]; exact e
    · exact h j r (ih (by omega))

/-! ### numbers -/
theorem dec_f {k : Nat} (hk : 21 ≤ k) (n : Int) (h0 : -9223372036854775808 ≤ n) (h1 : n ≤ 9223372036854775807) : spec_l01Dec.f k n = some ⟨(Lib.itoa n).toArray⟩ :=
  mono_to (f := fun k => spec_l01Dec.f k n) (fun k => spec_l01Dec.mono n k) hk (by
    show spec_l01Dec.f 21 n = _
    exact Pp.dec_itoa n h0 h1)
def isDig (c : UInt8) : Bool := decide (48 ≤ c.toNat) && decide (c.toNat ≤ 57)
/-- What the loop over the digits ends with. -/
def finN (k : Nat) (x0 x4 : ByteArray) (m : Int) : Option (Int × Bool) := if (x4.size : Int) < (x0.size : Int) then ((spec_l01Dec.f k (wrap64 (-m))).bind fun t141 => (if t141.toList = x0.toList then (some (wrap64 (-m), true)) else (some (0, false)))) else ((spec_l01Dec.f k m).bind fun t142 => (if t142.toList = x0.toList then (some (m, true)) else (some (0, false))))
theorem digit_f {x : Int} {c : UInt8} (h : x = (c.toNat : Int)) : spec_l01Digit.f x = some (isDig c) := by
  subst h
  unfold spec_l01Digit.f isDig
  by_cases k : 48 ≤ c.toNat
  · rw [if_pos (by omega)]
    by_cases j : c.toNat ≤ 57
    · simp [k, j]; omega
    · simp [k, j]; omega
  · rw [if_neg (by omega)]
    simp [k]
theorem num_loop (x0 x4 : ByteArray) (h18 : x4.size ≤ 18) (k : Nat) : ∀ (d i n : Nat), i + d = x4.size → n < 10 ^ i →
    spec_l01Number.l0 (k + d + 1) x0 x4 (n : Int) (i : Int) = if (x4.data.toList.drop i).all isDig then finN k x0 x4 (val n (x4.data.toList.drop i) : Nat) else some (0, false) := by
  have hlen : x4.data.toList.length = x4.size := rfl
  intro d
  induction d with
  | zero =>
    intro i n hi hn
    rw [List.drop_eq_nil_of_le (by omega)]
    unfold spec_l01Number.l0
    rw [if_neg (by omega)]
    rfl
  | succ d ih =>
    intro i n hi hn
    have hl : i < x4.data.toList.length := by omega
    obtain ⟨c, r, hc⟩ : ∃ c r, x4.data.toList.drop i = c :: r := ⟨_, _, List.drop_eq_getElem_cons hl⟩
    obtain ⟨_, b1, b2, b3⟩ := bt_get hc
    have w1 : wrap64 ((i : Int) + 1) = ((i + 1 : Nat) : Int) := by rw [wid (by omega) (by omega)]; omega
    have hp : 10 ^ i ≤ 10 ^ 17 := Nat.pow_le_pow_right (by decide) (by omega)
    have hp2 : (10 : Nat) ^ 17 = 100000000000000000 := by decide
    rw [hc]
    show spec_l01Number.l0 ((k + d + 1) + 1) x0 x4 (n : Int) (i : Int) = _
    unfold spec_l01Number.l0
    rw [if_pos (by omega), if_pos (by omega), digit_f b1]
    simp only [Option.bind_some]
    rcases Bool.eq_false_or_eq_true (isDig c) with hd | hd
    case inr => rw [if_neg (by rw [hd]; decide), if_neg (by simp [hd])]
    case inl =>
      rw [if_pos hd, show (c :: r).all isDig = r.all isDig by simp [hd]]
      have hd2 : 48 ≤ c.toNat ∧ c.toNat ≤ 57 := by simpa [isDig] using hd
      have e : wrap64 ((wrap64 (10 * (n : Int))) + (((bt x4 (i : Int)) - 48) % 256)) = ((n * 10 + (c.toNat - 48) : Nat) : Int) := by
        rw [b1, wid (n := 10 * (n : Int)) (by omega) (by omega), wid (by omega) (by omega)]
        omega
      have hn' : n * 10 + (c.toNat - 48) < 10 ^ (i + 1) := by
        rw [Nat.pow_succ]; omega
      rw [e, w1, ih (i + 1) _ (by omega) hn', b2]
      rfl
/-- What stands behind a sign. -/
def un (l : List UInt8) : List UInt8 := Lib.trimPrefix l [45]
theorem un_neg (r : List UInt8) : un (45 :: r) = r := by simp [un, Lib.trimPrefix, Lib.hasPrefix, List.isPrefixOf]
theorem un_pos {c : UInt8} (h : c ≠ 45) (r : List UInt8) : un (c :: r) = c :: r := by
  have : ([45] : List UInt8).isPrefixOf (c :: r) = false := by simp [List.isPrefixOf, Ne.symm h]
  unfold un Lib.trimPrefix Lib.hasPrefix
  rw [this]; rfl
theorem dd_all (u : Nat) : (decDigits u).all isDig = true := by
  rw [List.all_eq_true]
  intro c hc
  have := dd_digit hc
  simp [isDig, this.1, this.2]
theorem numL_some {l : List UInt8} {v : Int} (h : numL l = some v) : l = itoa v ∧ (un l).length ≤ 18 ∧ un l = decDigits v.natAbs ∧ (-9223372036854775808 ≤ v ∧ v ≤ 9223372036854775807) := by
  unfold numL at h
  split at h
  · rename_i x e
    split at h
    · rename_i hh
      cases h
      have b := Lib.atoiAll_bounds e
      refine ⟨hh.1.symm, hh.2, ?_, by omega⟩
      rw [← hh.1]
      by_cases hn : v < 0
      · rw [itoa_ng hn, un_neg]
      · rw [itoa_nn (by omega), show v.toNat = v.natAbs by omega]
        have hne := dd_ne v.natAbs
        have hd := @dd_digit v.natAbs
        generalize decDigits v.natAbs = L at *
        cases L with
        | nil => exact absurd rfl hne
        | cons c r =>
          refine un_pos (fun e => ?_) r
          have := hd (c := c) (by simp)
          subst e
          exact absurd this (by decide)
    · cases h
  · cases h
theorem numL_of {l : List UInt8} {v : Int} (h0 : -9223372036854775808 ≤ v) (h1 : v ≤ 9223372036854775807) (e : itoa v = l) (hl : (un l).length ≤ 18) : numL l = some v := by
  have a : Lib.atoiAll l = .ok v := by rw [← e]; exact atoi_itoa h0 h1
  rw [numL_ok a, if_pos ⟨e, hl⟩]
theorem rd_some {s : ByteArray} {v : Int} (h : numL s.data.toList = some v) : rdV s = v ∧ rdB s = true := by unfold rdV rdB; rw [h]; exact ⟨rfl, rfl⟩
theorem rd_none {s : ByteArray} (h : numL s.data.toList = none) : rdV s = 0 ∧ rdB s = false := by unfold rdV rdB; rw [h]; exact ⟨rfl, rfl⟩
theorem val_lt : ∀ (l : List UInt8) (a b : Nat), l.all isDig = true → a < 10 ^ b → val a l < 10 ^ (b + l.length)
  | [], a, b, _, h => h
  | c :: l, a, b, h, ha => by
    simp only [List.all_cons, Bool.and_eq_true] at h
    have hc : 48 ≤ c.toNat ∧ c.toNat ≤ 57 := by simpa [isDig] using h.1
    have := val_lt l (a * 10 + (c.toNat - 48)) (b + 1) h.2 (by rw [Nat.pow_succ]; omega)
    rw [show b + (c :: l).length = b + 1 + l.length by simp; omega]
    exact this
theorem fin_f {k : Nat} (hk : 21 ≤ k) {x0 x4 : ByteArray} {neg : Bool} {m : Nat} (hm : m < 1000000000000000000) (hneg : (x4.size < x0.size) ↔ neg = true) :
    finN k x0 x4 (m : Int) = if itoa (if neg then -(m : Int) else m) = x0.data.toList then some ((if neg then -(m : Int) else m), true) else some (0, false) := by
  have tl : ∀ l : List UInt8, (⟨l.toArray⟩ : ByteArray).toList = l := fun l => by rw [ByteArray.toList_eq]
  unfold finN
  cases neg
  · rw [if_neg (by have := hneg; simp at this; omega), dec_f hk _ (by omega) (by omega)]
    simp only [Option.bind_some, tl, ByteArray.toList_eq x0]
    simp
  · rw [if_pos (by have := hneg; simp at this; omega), wid (n := -(m : Int)) (by omega) (by omega), dec_f hk _ (by omega) (by omega)]
    simp only [Option.bind_some, tl, ByteArray.toList_eq x0]
    simp
theorem j1_eq (k : Nat) (x0 x4 : ByteArray) : spec_l01Number.j1 (k + 1) x0 x4 = if (x4.size : Int) < 1 then spec_l01Number.j2 k x0 x4 true else spec_l01Number.j2 k x0 x4 (decide ((x4.size : Int) > 18)) := by rw [spec_l01Number.j1]
theorem j2_eq (k : Nat) (x0 x4 : ByteArray) (b : Bool) : spec_l01Number.j2 (k + 1) x0 x4 b = if b = true then some (0, false) else spec_l01Number.l0 k x0 x4 0 0 := by rw [spec_l01Number.j2]
theorem j0_eq (k : Nat) (x0 x4 : ByteArray) (b : Bool) : spec_l01Number.j0 (k + 1) x0 x4 b = if b = true then (if 1 ≤ (x4.size : Int) then spec_l01Number.j1 k x0 (x4.extract 1 x4.size) else none) else spec_l01Number.j1 k x0 x4 := by rw [spec_l01Number.j0]
theorem tail_f {s x4 : ByteArray} {k : Nat} (hk : 50 ≤ k) {neg : Bool} (hx : x4.data.toList = un s.data.toList) (hneg : (x4.size < s.size) ↔ neg = true) (hsg : ∀ v : Int, s.data.toList = itoa v → (neg = true ↔ v < 0)) :
    spec_l01Number.j1 k s x4 = some (rdV s, rdB s) := by
  have hlen : x4.data.toList.length = x4.size := rfl
  obtain ⟨k, rfl⟩ : ∃ j, k = j + 2 := ⟨k - 2, by omega⟩
  have none_of : (∀ v, numL s.data.toList ≠ some v) → (rdV s, rdB s) = (0, false) := fun h => by
    have e : numL s.data.toList = none := by
      cases hh : numL s.data.toList with
      | none => rfl
      | some v => exact absurd hh (h v)
    obtain ⟨a, b⟩ := rd_none e
    rw [a, b]
  rw [show k + 2 = (k + 1) + 1 from rfl, j1_eq, j2_eq, j2_eq]
  by_cases h1 : x4.size < 1
  · rw [if_pos (by omega), if_pos rfl, none_of fun v hv => by
      have := (numL_some hv).2.2.1
      rw [← hx] at this
      have hz : x4.data.toList = [] := List.eq_nil_of_length_eq_zero (by omega)
      rw [hz] at this
      exact dd_ne _ this.symm]
  · rw [if_neg (by omega)]
    by_cases h2 : x4.size > 18
    · rw [if_pos (by simp; omega), none_of fun v hv => by
        have := (numL_some hv).2.1
        rw [← hx] at this
        omega]
    · rw [if_neg (by simp; omega)]
      have loop := num_loop s x4 (by omega) (k - x4.size - 1) x4.size 0 0 (by omega) (by decide)
      rw [show k - x4.size - 1 + x4.size + 1 = k by omega, List.drop_zero] at loop
      rw [show ((0 : Nat) : Int) = 0 from rfl] at loop
      rw [loop]
      by_cases hall : x4.data.toList.all isDig = true
      · rw [if_pos hall]
        have hv := val_lt x4.data.toList 0 0 hall (by decide)
        have hp : 10 ^ (0 + x4.data.toList.length) ≤ 10 ^ 18 := Nat.pow_le_pow_right (by decide) (by omega)
        have hp2 : (10 : Nat) ^ 18 = 1000000000000000000 := by decide
        rw [fin_f (by omega) (m := val 0 x4.data.toList) (by omega) hneg]
        generalize hm : val 0 x4.data.toList = m at *
        by_cases hi : itoa (if neg then -(m : Int) else m) = s.data.toList
        · rw [if_pos hi]
          have := rd_some (numL_of (v := if neg then -(m : Int) else m) (by cases neg <;> simp <;> omega) (by cases neg <;> simp <;> omega) hi (by rw [← hx]; omega))
          rw [this.1, this.2]
        · rw [if_neg hi, none_of fun v hv' => hi (by
            obtain ⟨a1, a2, a3, a4⟩ := numL_some hv'
            have sg := hsg v a1
            rw [← hx] at a3
            rw [a3, val_dd (v.natAbs + 1) v.natAbs (by omega)] at hm
            rw [a1]
            congr 1
            cases neg
            · simp at sg ⊢; omega
            · simp at sg ⊢; omega)]
      · rw [if_neg hall, none_of fun v hv => hall (by
          have := (numL_some hv).2.2.1
          rw [← hx] at this
          rw [this]; exact dd_all _)]
theorem number_f {k : Nat} (hk : 60 ≤ k) (s : ByteArray) : spec_l01Number.f k s = some (rdV s, rdB s) := by
  have hlen : s.data.toList.length = s.size := rfl
  obtain ⟨k, rfl⟩ : ∃ j, k = j + 1 := ⟨k - 1, by omega⟩
  unfold spec_l01Number.f
  rw [ByteArray.toList_eq]
  by_cases h0 : s.data.toList = []
  · rw [if_pos h0]
    rw [j0_eq, if_neg (by decide)]
    refine tail_f (by omega) (neg := false) (by rw [h0]; rfl) (by simp) (fun v hv => ?_)
    rw [h0] at hv
    by_cases hn : v < 0
    · rw [itoa_ng hn] at hv; cases hv
    · simp [hn]
  · rw [if_neg h0]
    obtain ⟨c, r, hc⟩ : ∃ c r, s.data.toList = c :: r := by
      cases h : s.data.toList with
      | nil => exact absurd h h0
      | cons c r => exact ⟨c, r, rfl⟩
    have hsz : s.size = r.length + 1 := by rw [← hlen, hc]; rfl
    obtain ⟨_, b1, _, _⟩ := bt_get (s := s) (i := 0) (c := c) (r := r) (by rw [hc]; rfl)
    rw [show ((0 : Nat) : Int) = 0 from rfl] at b1
    rw [if_pos (by omega), b1, j0_eq]
    by_cases h45 : c = 45
    · subst h45
      rw [if_pos (by decide), if_pos (by omega)]
      have hx : (s.extract 1 s.size).data.toList = r := by rw [Lib.extract_to_end, hc]; rfl
      have hxs : (s.extract 1 s.size).size = r.length := by rw [← hx]; rfl
      refine tail_f (by omega) (neg := true) (by rw [hx, hc, un_neg]) (by simp; omega) (fun v hv => ?_)
      rw [hc] at hv
      by_cases hn : v < 0
      · simp [hn]
      · exfalso
        rw [itoa_nn (by omega)] at hv
        have := @dd_digit v.toNat 45 (by rw [← hv]; simp)
        exact absurd this (by decide)
    · have hne : ¬ ((c.toNat : Int) == 45) = true := fun k => h45 (UInt8.toNat.inj (show c.toNat = (45 : UInt8).toNat by
        have : (45 : UInt8).toNat = 45 := rfl
        have := eq_of_beq k
        omega))
      rw [if_neg hne]
      refine tail_f (by omega) (neg := false) (by rw [hc, un_pos h45]) (by simp) (fun v hv => ?_)
      rw [hc] at hv
      by_cases hn : v < 0
      · exfalso
        rw [itoa_ng hn] at hv
        injection hv with e1 e2
        exact h45 e1
      · simp [hn]
end Go.Proofs.YtegdoadciojpaaaGreatDoor.Rq
