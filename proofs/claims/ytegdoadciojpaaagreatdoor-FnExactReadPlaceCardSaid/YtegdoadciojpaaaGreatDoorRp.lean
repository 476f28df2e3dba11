/-
  Plain laws: numerals that are read, texts that are split at blanks. No program.
-/
import Derived.Lib.ItoaNum
import Derived.Lib.ItoaMem
import Derived.Lib.ParseIntBTie
import Derived.Lib.SplitLaws
namespace Go.Proofs.YtegdoadciojpaaaGreatDoor.Rp
open Go Go.Lib
set_option linter.unusedSimpArgs false
set_option linter.unusedVariables false

/-! ### numerals -/
theorem dd_small {u : Nat} (h : u < 10) : decDigits u = [UInt8.ofNat (48 + u)] := by rw [decDigits, dif_pos h]
theorem dd_big {u : Nat} (h : ¬ u < 10) : decDigits u = decDigits (u / 10) ++ [UInt8.ofNat (48 + u % 10)] := by rw [decDigits, dif_neg h]
theorem byte_val {d : Nat} (h : d < 10) : (UInt8.ofNat (48 + d)).toNat = 48 + d := by
  rw [UInt8.toNat_ofNat']; omega
theorem dd_byte : ∀ (n u : Nat), u < n → ∀ c ∈ decDigits u, 48 ≤ c.toNat ∧ c.toNat ≤ 57
  | 0, _, h, _, _ => by omega
  | n + 1, u, h, c, hc => by
    by_cases k : u < 10
    · rw [dd_small k] at hc
      simp only [List.mem_cons, List.not_mem_nil, or_false] at hc
      subst hc; rw [byte_val k]; omega
    · rw [dd_big k, List.mem_append] at hc
      rcases hc with hc | hc
      · exact dd_byte n (u / 10) (by omega) c hc
      · simp only [List.mem_cons, List.not_mem_nil, or_false] at hc
        subst hc; rw [byte_val (by omega)]; omega
theorem dd_digit {u : Nat} {c : UInt8} (h : c ∈ decDigits u) : 48 ≤ c.toNat ∧ c.toNat ≤ 57 := dd_byte (u + 1) u (by omega) c h
theorem dd_ne (u : Nat) : decDigits u ≠ [] := by
  by_cases k : u < 10
  · rw [dd_small k]; simp
  · rw [dd_big k]; simp
/-- The value of digits. -/
def val : Nat → List UInt8 → Nat
  | a, [] => a
  | a, c :: r => val (a * 10 + (c.toNat - 48)) r
theorem val_app : ∀ (l r : List UInt8) (a : Nat), val a (l ++ r) = val (val a l) r
  | [], r, a => rfl
  | c :: l, r, a => val_app l r _
theorem val_dd : ∀ (n u : Nat), u < n → val 0 (decDigits u) = u
  | 0, _, h => by omega
  | n + 1, u, h => by
    by_cases k : u < 10
    · rw [dd_small k]
      show 0 * 10 + ((UInt8.ofNat (48 + u)).toNat - 48) = u
      rw [byte_val k]; omega
    · rw [dd_big k, val_app, val_dd n (u / 10) (by omega)]
      show u / 10 * 10 + ((UInt8.ofNat (48 + u % 10)).toNat - 48) = u
      rw [byte_val (by omega)]; omega
theorem parse_app : ∀ (l r : List UInt8) (a v : Nat), parseUint10 a l = .ok v → parseUint10 a (l ++ r) = parseUint10 v r
  | [], r, a, v, h => by
    simp only [parseUint10] at h
    injection h with h
    subst h; rfl
  | c :: l, r, a, v, h => by
    simp only [parseUint10, List.cons_append] at h ⊢
    split at h
    · rename_i h1
      rw [if_pos h1]
      split at h
      · cases h
      · rename_i h2
        rw [if_neg h2]
        split at h
        · cases h
        · rename_i h3
          rw [if_neg h3]
          exact parse_app l r _ v h
    · cases h
theorem parse_dd : ∀ (n u : Nat), u < n → u < 18446744073709551616 → parseUint10 0 (decDigits u) = .ok u
  | 0, _, h, _ => by omega
  | n + 1, u, h, hb => by
    by_cases k : u < 10
    · rw [dd_small k]
      have e := byte_val k
      simp only [parseUint10, e]
      rw [if_pos (by omega), if_neg (by omega), if_neg (by omega)]
      congr 1; omega
    · have e := byte_val (show u % 10 < 10 by omega)
      rw [dd_big k, parse_app _ _ _ _ (parse_dd n (u / 10) (by omega) (by omega))]
      simp only [parseUint10, e]
      rw [if_pos (by omega), if_neg (by omega), if_neg (by omega)]
      congr 1; omega
theorem mag_dd {u : Nat} (h : u < 18446744073709551616) : parseMag (decDigits u) = .ok u := by
  unfold parseMag
  rw [if_neg (dd_ne u), parse_dd (u + 1) u (by omega) h]
theorem itoa_nn {v : Int} (h : 0 ≤ v) : itoa v = decDigits v.toNat := by unfold itoa; rw [if_neg (by omega)]
theorem itoa_ng {v : Int} (h : v < 0) : itoa v = 45 :: decDigits v.natAbs := by unfold itoa; rw [if_pos h]
theorem atoi_itoa {v : Int} (h0 : -9223372036854775808 ≤ v) (h1 : v ≤ 9223372036854775807) : atoiAll (itoa v) = .ok v := by
  by_cases hn : v < 0
  · rw [itoa_ng hn, atoiAll_minus, mag_dd (by omega)]
    simp only [signed]
    rw [if_neg (by omega)]
    congr 1; omega
  · rw [itoa_nn (by omega)]
    have hne := dd_ne v.toNat
    have hd := @dd_digit v.toNat
    have hm := mag_dd (u := v.toNat) (by omega)
    generalize decDigits v.toNat = l at *
    cases l with
    | nil => exact absurd rfl hne
    | cons c r =>
      have := hd (c := c) (by simp)
      rw [atoiAll_plain c r (by omega) (by omega), hm]
      simp only [signless]
      rw [if_neg (by omega)]
      congr 1; omega
/-- No blank in a numeral. -/
theorem itoa_noblank (v : Int) : (32 : UInt8) ∉ itoa v := by
  intro h
  by_cases hn : v < 0
  · rw [itoa_ng hn, List.mem_cons] at h
    rcases h with h | h
    · exact absurd h (by decide)
    · have := dd_digit h; exact absurd this (by decide)
  · rw [itoa_nn (by omega)] at h
    have := dd_digit h; exact absurd this (by decide)

/-! ### splitting at blanks -/
def sp : List UInt8 → List (List UInt8)
  | [] => [[]]
  | c :: r => if c = 32 then [] :: sp r else match sp r with
    | p :: ps => (c :: p) :: ps
    | [] => [[c]]
def jn : List (List UInt8) → List UInt8
  | [] => []
  | [p] => p
  | p :: q :: ps => p ++ 32 :: jn (q :: ps)
theorem sp_ne (s : List UInt8) : sp s ≠ [] := by
  cases s with
  | nil => simp [sp]
  | cons c r =>
    unfold sp
    split
    · simp
    · split <;> simp
theorem jn_sp : ∀ s : List UInt8, jn (sp s) = s
  | [] => rfl
  | c :: r => by
    have ih := jn_sp r
    have hne := sp_ne r
    unfold sp
    split
    · rename_i h; subst h
      generalize sp r = L at *
      cases L with
      | nil => exact absurd rfl hne
      | cons p ps => show [] ++ 32 :: jn (p :: ps) = _; rw [ih]; rfl
    · generalize sp r = L at *
      cases L with
      | nil => exact absurd rfl hne
      | cons p ps =>
        show jn ((c :: p) :: ps) = c :: r
        rw [← ih]
        cases ps with
        | nil => rfl
        | cons q qs => rfl
theorem sp_word : ∀ (w r : List UInt8), (32 : UInt8) ∉ w → sp (w ++ 32 :: r) = w :: sp r
  | [], r, _ => by simp [sp]
  | c :: w, r, h => by
    have ih := sp_word w r (fun k => h (List.mem_cons_of_mem _ k))
    have hc : c ≠ 32 := fun e => h (by rw [e]; simp)
    rw [List.cons_append, sp, if_neg hc, ih]
theorem sp_last : ∀ (w : List UInt8), (32 : UInt8) ∉ w → sp w = [w]
  | [], _ => rfl
  | c :: w, h => by
    have ih := sp_last w (fun k => h (List.mem_cons_of_mem _ k))
    have hc : c ≠ 32 := fun e => h (by rw [e]; simp)
    rw [sp, if_neg hc, ih]
theorem sp_jn : ∀ (p : List UInt8) (ps : List (List UInt8)), (∀ q ∈ p :: ps, (32 : UInt8) ∉ q) → sp (jn (p :: ps)) = p :: ps
  | p, [], h => sp_last p (h p (by simp))
  | p, q :: ps, h => by
    show sp (p ++ 32 :: jn (q :: ps)) = _
    rw [sp_word _ _ (h p (by simp)), sp_jn q ps (fun x hx => h x (List.mem_cons_of_mem _ hx))]
theorem index_cons_eq (l : List UInt8) : index (32 :: l) [32] = 0 := by simp [index]
theorem index_cons_ne {b : UInt8} (h : b ≠ 32) (l : List UInt8) : index (b :: l) [32] = if index l [32] == -1 then -1 else index l [32] + 1 := by
  have : ([32] : List UInt8).isPrefixOf (b :: l) = false := by simp [List.isPrefixOf, Ne.symm h]
  rw [index, this]; rfl
theorem index_nn (s : List UInt8) : index s [32] = -1 ∨ ∃ i : Nat, index s [32] = i := by
  rcases index_spec s [32] with h | ⟨i, h, _⟩
  · exact .inl h.1
  · exact .inr ⟨i, h⟩
theorem splitK_sp : ∀ s : List UInt8, splitK [32] 0 (count s [32]) s = sp s
  | [] => by rw [count_one]; rfl
  | b :: l => by
    have ih := splitK_sp l
    by_cases hb : b = 32
    · subst hb
      rw [count_cons_eq, Nat.add_comm, splitK, index_cons_eq, sp, if_pos rfl]
      simp only [List.length_cons, List.length_nil]
      exact congrArg (fun x => [] :: x) ih
    · rw [count_cons_ne _ _ _ hb, sp, if_neg hb, ← ih]
      rcases index_nn l with hi | ⟨i, hi⟩
      · rw [count_miss hi]; rfl
      · have hc := count_hit (s := l) (sub := [32]) (by simp) hi
        rw [hc, Nat.add_comm, splitK, splitK, index_cons_ne hb, hi]
        have n1 : (((i : Int) == -1) = true) = False := by simp
        have n2 : (((i : Int) + 1 == -1) = true) = False := by simp; omega
        simp only [n1, n2, if_false]
        have t1 : ((i : Int) + 1).toNat = i + 1 := by omega
        rw [t1]
        simp [Nat.add_right_comm]
theorem split_sp (s : List UInt8) : Lib.split s [32] = sp s := splitK_sp s
end Go.Proofs.YtegdoadciojpaaaGreatDoor.Rp
