/-
  Plain laws: cutting at a byte, trimming digits, the texts of angles. No program.
-/
import Derived.Test.YtegdoadciojpaaaGreatDoorRn
import Derived.Lib.SlTrimSet
import Derived.Lib.IndexMore
namespace Go.Proofs.YtegdoadciojpaaaGreatDoor.Rt
open Go Go.RowKit Go.Lib Go.Proofs.YtegdoadciojpaaaGreatDoor.Rq Go.Proofs.YtegdoadciojpaaaGreatDoor.Rp
set_option linter.unusedVariables false
set_option linter.unusedSimpArgs false
structure Aside (p : Prop) : Prop where
  out : p
def digB : List UInt8 := [48, 49, 50, 51, 52, 53, 54, 55, 56, 57]
theorem digB_dig : ∀ c : UInt8, digB.contains c = isDig c := by
  have h : ∀ n : Fin 256, digB.contains (UInt8.ofNat n.val) = isDig (UInt8.ofNat n.val) := by decide +kernel
  intro c
  have := h ⟨c.toNat, c.toNat_lt⟩
  simpa using this
theorem dw_nil {p : UInt8 → Bool} {l : List UInt8} (h : l.all p = true) : l.dropWhile p = [] := by
  induction l with
  | nil => rfl
  | cons a l ih =>
    simp only [List.all_cons, Bool.and_eq_true] at h
    rw [List.dropWhile_cons_of_pos h.1]; exact ih h.2
theorem dw_all {p : UInt8 → Bool} : ∀ {l : List UInt8}, l.dropWhile p = [] → l.all p = true
  | [], _ => rfl
  | a :: l, h => by
    by_cases k : p a = true
    · rw [List.dropWhile_cons_of_pos k] at h
      simp [k, dw_all h]
    · rw [List.dropWhile_cons_of_neg k] at h; cases h
theorem dw_idem {p : UInt8 → Bool} : ∀ {l : List UInt8}, (l.dropWhile p).all p = true → l.dropWhile p = []
  | [], _ => rfl
  | a :: l, h => by
    by_cases k : p a = true
    · rw [List.dropWhile_cons_of_pos k] at h ⊢; exact dw_idem h
    · rw [List.dropWhile_cons_of_neg k] at h
      simp only [List.all_cons, Bool.and_eq_true] at h
      exact absurd h.1 k
theorem trim_all (l : List UInt8) : trimS l digB = [] ↔ l.all isDig = true := by
  have e : (fun c => digB.contains c) = isDig := funext digB_dig
  unfold trimS trimLeftS trimRightS
  rw [e]
  constructor
  · intro h
    have h1 := dw_all h
    rw [List.all_reverse] at h1
    have h2 := dw_all (dw_idem h1)
    rwa [List.all_reverse] at h2
  · intro h
    have h1 : l.reverse.dropWhile isDig = [] := dw_nil (by rwa [List.all_reverse])
    rw [h1]; rfl
/-! ### cutting -/
theorem ix_nil (c : UInt8) : index [] [c] = -1 := by simp [index]
theorem ix_eq (c : UInt8) (l : List UInt8) : index (c :: l) [c] = 0 := by simp [index]
theorem ix_ne {c b : UInt8} (h : b ≠ c) (l : List UInt8) : index (b :: l) [c] = if index l [c] == -1 then -1 else index l [c] + 1 := by
  have : ([c] : List UInt8).isPrefixOf (b :: l) = false := by simp [List.isPrefixOf, Ne.symm h]
  rw [index, this]; rfl
theorem ix_nn (c : UInt8) (s : List UInt8) : index s [c] = -1 ∨ ∃ i : Nat, index s [c] = i := by
  rcases index_spec s [c] with h | ⟨i, h, _⟩
  · exact .inl h.1
  · exact .inr ⟨i, h⟩
theorem cut_nil (c : UInt8) : cut [] [c] = ([], [], false) := by unfold cut; rw [ix_nil]; rfl
theorem cut_eq (c : UInt8) (l : List UInt8) : cut (c :: l) [c] = ([], l, true) := by unfold cut; rw [ix_eq]; simp
theorem cut_ne {c b : UInt8} (h : b ≠ c) (l : List UInt8) : cut (b :: l) [c] = (b :: (cut l [c]).1, (cut l [c]).2) := by
  unfold cut
  rw [ix_ne h]
  rcases ix_nn c l with e | ⟨i, e⟩
  · rw [e]; simp
  · rw [e]
    have n1 : (((i : Int) == -1) = true) = False := by simp
    simp only [n1, if_false]
    rw [if_pos (by omega), if_pos (by omega)]
    have t1 : ((i : Int) + 1).toNat = i + 1 := by omega
    rw [t1]
    simp [Nat.add_right_comm]
theorem cut_word {c : UInt8} : ∀ (w r : List UInt8), c ∉ w → cut (w ++ c :: r) [c] = (w, r, true)
  | [], r, _ => cut_eq c r
  | b :: w, r, h => by
    have hb : b ≠ c := fun e => h (by rw [e]; simp)
    rw [List.cons_append, cut_ne hb, cut_word w r (fun k => h (List.mem_cons_of_mem _ k))]
theorem cut_spec (c : UInt8) : ∀ l : List UInt8, ((cut l [c]).2.2 = true ∧ l = (cut l [c]).1 ++ c :: (cut l [c]).2.1) ∨ ((cut l [c]).2.2 = false ∧ (cut l [c]).1 = l ∧ (cut l [c]).2.1 = [])
  | [] => .inr (by rw [cut_nil]; exact ⟨rfl, rfl, rfl⟩)
  | b :: l => by
    by_cases h : b = c
    · subst h; rw [cut_eq]; exact .inl ⟨rfl, rfl⟩
    · rw [cut_ne h]
      rcases cut_spec c l with ⟨h1, h2⟩ | ⟨h1, h2, h3⟩
      · exact .inl ⟨h1, by rw [List.cons_append, ← h2]⟩
      · exact .inr ⟨h1, by rw [h2], h3⟩
theorem cut_len (c : UInt8) (l : List UInt8) : (cut l [c]).1.length ≤ l.length ∧ (cut l [c]).2.1.length ≤ l.length := by
  rcases cut_spec c l with ⟨h1, h2⟩ | ⟨h1, h2, h3⟩
  · have := congrArg List.length h2
    rw [List.length_append, List.length_cons] at this
    omega
  · rw [h2, h3]; exact ⟨Nat.le_refl _, Nat.zero_le _⟩
/-! ### texts of angles -/
/-- Seven digits. -/
def padL (x : Int) : List UInt8 := Lib.repeatL [48] (7 - (Lib.itoa x).length) ++ Lib.itoa x
/-- A number in units of 10^-7. -/
def absL (m : Int) : List UInt8 := Lib.itoa (m.tdiv 10000000) ++ 46 :: padL (m.tmod 10000000)
def dgL (n : Int) : List UInt8 := if n < 0 then 45 :: absL (-n) else absL n
theorem rep_len (c : Nat) : (Lib.repeatL [48] c).length = c := by
  induction c with
  | zero => rfl
  | succ c ih => show ([48] ++ Lib.repeatL [48] c).length = c + 1; rw [List.length_append, ih]; simp; omega
theorem rep_all (c : Nat) : (Lib.repeatL [48] c).all isDig = true := by
  induction c with
  | zero => rfl
  | succ c ih => show ([48] ++ Lib.repeatL [48] c).all isDig = true; rw [List.all_append, ih]; rfl
theorem itoa_le (d x : Nat) (h : x < 10 ^ (d + 1)) : (Lib.itoa (x : Int)).length ≤ d + 1 := by
  rw [Rp.itoa_nn (by omega)]
  exact (Pp.pad_dec d x h).1
theorem itoa_dig (x : Nat) : (Lib.itoa (x : Int)).all isDig = true := by
  rw [Rp.itoa_nn (by omega)]; exact dd_all x
theorem itoa_ne (x : Nat) : Lib.itoa (x : Int) ≠ [] := by rw [Rp.itoa_nn (by omega)]; exact dd_ne x
theorem val_rep (c : Nat) : val 0 (Lib.repeatL [48] c) = 0 := by
  induction c with
  | zero => rfl
  | succ c ih => exact ih
theorem val_cons (a : Nat) (c : UInt8) (l : List UInt8) : val a (c :: l) = val (a * 10 + (c.toNat - 48)) l := by exact rfl
theorem val_lin : ∀ (l : List UInt8) (a : Nat), val a l = a * 10 ^ l.length + val 0 l
  | [], a => by
    have e : a * 10 ^ ([] : List UInt8).length = a := Nat.mul_one a
    rw [e]; rfl
  | c :: l, a => by
    have e1 := val_lin l (a * 10 + (c.toNat - 48))
    have e2 := val_lin l (0 * 10 + (c.toNat - 48))
    rw [val_cons, val_cons, List.length_cons, e1, e2, Nat.pow_succ, Nat.add_mul, Nat.zero_mul, Nat.zero_add, Nat.mul_assoc, Nat.mul_comm 10, Nat.add_assoc]
theorem val_itoa (x : Nat) : val 0 (Lib.itoa (x : Int)) = x := by
  rw [Rp.itoa_nn (by omega)]; exact val_dd (x + 1) x (by omega)
theorem padL_facts (r : Nat) (h : r < 10000000) : (padL r).length = 7 ∧ (padL r).all isDig = true ∧ ∀ a, val a (padL r) = a * 10000000 + r := by
  have hl : (Lib.itoa (r : Int)).length ≤ 7 := itoa_le 6 r (by omega)
  have e7 : (padL r).length = 7 := by unfold padL; rw [List.length_append, rep_len]; omega
  refine ⟨e7, by unfold padL; rw [List.all_append, rep_all, itoa_dig]; rfl, fun a => ?_⟩
  rw [val_lin, e7]
  unfold padL
  rw [val_app, val_rep, val_itoa]
theorem absL_nat (M : Nat) : absL (M : Int) = Lib.itoa ((M / 10000000 : Nat) : Int) ++ 46 :: padL ((M % 10000000 : Nat) : Int) := by
  unfold absL
  rw [Int.tdiv_eq_ediv_of_nonneg (by omega), Int.tmod_eq_emod_of_nonneg (by omega)]
  rfl
theorem dig_not {l : List UInt8} (h : l.all isDig = true) {c : UInt8} (hc : isDig c = false) : c ∉ l := fun k => by
  have := List.all_eq_true.1 h c k
  rw [hc] at this; cases this
theorem un_dig {l : List UInt8} (h : l.all isDig = true) : un l = l := by
  cases l with
  | nil => rfl
  | cons c r =>
    refine un_pos (fun e => ?_) r
    subst e
    simp [isDig] at h
/-- What the text of a number is cut into. -/
theorem dgL_cut (n : Int) (h0 : -10000000000000000 < n) (h1 : n < 10000000000000000) : ∃ U P : List UInt8, ((-10000000000 < n ∧ n < 10000000000) → U.length ≤ 3) ∧ U.all isDig = true ∧ P.all isDig = true ∧ 1 ≤ U.length ∧ U.length ≤ 9 ∧ P.length = 7 ∧ val 0 (U ++ P) = n.natAbs ∧
    cut (dgL n) [46] = ((if n < 0 then 45 :: U else U), P, true) ∧ dgL n = (if n < 0 then 45 :: U else U) ++ 46 :: P := by
  obtain ⟨M, hM⟩ : ∃ M : Nat, n.natAbs = M := ⟨_, rfl⟩
  have hM1 : M < 10000000000000000 := by omega
  have hq : M / 10000000 < 10 ^ (8 + 1) := by
    show M / 10000000 < 1000000000
    omega
  obtain ⟨p1, p2, p3⟩ := padL_facts (M % 10000000) (by omega)
  have ud := itoa_dig (M / 10000000)
  have une := itoa_ne (M / 10000000)
  have ul := itoa_le 8 (M / 10000000) hq
  refine ⟨Lib.itoa ((M / 10000000 : Nat) : Int), padL ((M % 10000000 : Nat) : Int), fun h => itoa_le 2 (M / 10000000) (by show M / 10000000 < 1000; omega), ud, p2, by have := List.length_pos_iff.2 une; omega, ul, p1, ?_, ?_, ?_⟩
  · rw [val_app, val_itoa, p3, hM]; omega
  · unfold dgL
    by_cases hn : n < 0
    · rw [if_pos hn, if_pos hn, show -n = (M : Int) by omega, absL_nat, ← List.cons_append]
      refine cut_word _ _ (fun k => ?_)
      rw [List.mem_cons] at k
      rcases k with k | k
      · exact absurd k (by decide)
      · exact dig_not ud (by decide) k
    · rw [if_neg hn, if_neg hn, show n = (M : Int) by omega, absL_nat]
      exact cut_word _ _ (dig_not ud (by decide))
  · unfold dgL
    by_cases hn : n < 0
    · rw [if_pos hn, if_pos hn, show -n = (M : Int) by omega, absL_nat]; rfl
    · rw [if_neg hn, if_neg hn, show n = (M : Int) by omega, absL_nat]
theorem dgL_noblank (n : Int) (h0 : -10000000000000000 < n) (h1 : n < 10000000000000000) : (32 : UInt8) ∉ dgL n := by
  obtain ⟨U, P, _, u, p, _, _, _, _, _, e⟩ := dgL_cut n h0 h1
  rw [e]
  have a1 := dig_not u (c := 32) (by decide)
  have a2 := dig_not p (c := 32) (by decide)
  intro k
  rw [List.mem_append, List.mem_cons] at k
  rcases k with k | k | k
  · split at k
    · rw [List.mem_cons] at k
      rcases k with k | k
      · exact absurd k (by decide)
      · exact a1 k
    · exact a1 k
  · exact absurd k (by decide)
  · exact a2 k
end Go.Proofs.YtegdoadciojpaaaGreatDoor.Rt
