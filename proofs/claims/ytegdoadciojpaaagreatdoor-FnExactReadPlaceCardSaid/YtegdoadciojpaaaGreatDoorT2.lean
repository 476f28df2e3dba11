/-
  Reading places, the program's side: the text of a number with decimals.
-/
import Derived.Test.YtegdoadciojpaaaGreatDoorT1
import Derived.Test.YtegdoadciojpaaaGreatDoorQ1
namespace Go.Proofs.YtegdoadciojpaaaGreatDoor.Rt
open Go Go.RowKit Go.Proofs.YtegdoadciojpaaaGreatDoor.Rq
set_option maxRecDepth 100000
set_option linter.unusedVariables false
set_option linter.unusedSimpArgs false
def dtL (q r : Int) (d : Nat) : List UInt8 := Lib.itoa q ++ 46 :: (Lib.repeatL [48] (d - (Lib.itoa r).length) ++ Lib.itoa r)
theorem dt_facts (M : Int) (d : Nat) (h0 : 0 ≤ M) (h1 : M < 1000000000000000000) (hd : d ≤ 9) : ∃ p q r : Int, ((10 ^ d : Nat) : Int) = p ∧ (p = 0) = False ∧ (p == 0) = false ∧ M.tdiv p = q ∧ M.tmod p = r ∧ 0 ≤ q ∧ q < 1000000000000000000 ∧ 0 ≤ r ∧ r < 1000000000000000000 ∧ (1 ≤ d → (Lib.itoa r).length ≤ d) ∧ (d = 7 → p = 10000000) := by
  obtain ⟨p, hp⟩ : ∃ p : Nat, p = 10 ^ d := ⟨_, rfl⟩
  have hp1 : 1 ≤ p ∧ p ≤ 1000000000 := by
    match d, hd with
    | 0, _ | 1, _ | 2, _ | 3, _ | 4, _ | 5, _ | 6, _ | 7, _ | 8, _ | 9, _ => subst hp; decide
    | n + 10, h => exact absurd h (by omega)
  obtain ⟨m, rfl⟩ := Int.eq_ofNat_of_zero_le h0
  have hq : ((m : Int).tdiv (p : Int)) = ((m / p : Nat) : Int) := by rw [Int.tdiv_eq_ediv_of_nonneg (by omega)]; rfl
  have hr : ((m : Int).tmod (p : Int)) = ((m % p : Nat) : Int) := by rw [Int.tmod_eq_emod_of_nonneg (by omega)]; rfl
  have a1 := Nat.mod_lt m (show 0 < p by omega)
  have a2 := Nat.div_le_self m p
  refine ⟨p, (m / p : Nat), (m % p : Nat), by rw [hp], by simp; omega, by simp; omega, hq, hr, Int.natCast_nonneg _, Int.ofNat_lt.2 (show m / p < 1000000000000000000 by omega), Int.natCast_nonneg _, Int.ofNat_lt.2 (show m % p < 1000000000000000000 by omega), fun hd1 => ?_, fun h7 => by subst h7; subst hp; rfl⟩
  have := itoa_le (d - 1) (m % p) (by rw [Nat.sub_add_cancel hd1, ← hp]; exact a1)
  omega
theorem ba3 (a b c d : List UInt8) : ((⟨a.toArray⟩ : ByteArray) ++ ⟨b.toArray⟩ ++ ⟨c.toArray⟩ ++ ⟨d.toArray⟩).data.toList = a ++ b ++ c ++ d := by
  rw [Pp.ba_mk, Pp.ba_mk, Pp.ba_mk]
theorem dt_neg (M : Int) (d : Nat) (h0 : 0 < M) (h1 : M < 1000000000000000000) (hd : d ≤ 9) (w : World) (hI : IR w) :
    Calls Tryz.prog 41 #[.int .i64 (-M), .int .i64 (d : Int)] w fun e w' => ∃ T : ByteArray, e = .returned (.string T) ∧ Below w.heap.size w w' ∧ (d = 7 → T.data.toList = 45 :: absL M) := by
  obtain ⟨p, q, r, hp, p0, p0', hq, hr, q0, q1, r0, r1, hl, h7⟩ := dt_facts M d (by omega) h1 hd
  have HB := Below.refl w.heap.size w
  have hn : -M < 0 := by omega
  have wM : wrap64 M = M := wid (by omega) (by omega)
  have wq : wrap64 q = q := wid (by omega) (by omega)
  have lq := Pp.itoa_len q (by omega) (by omega)
  have lr := Pp.itoa_len r (by omega) (by omega)
  have lz := rep_len (d - (Lib.itoa r).length)
  replace hp := Aside.mk hp
  go_enter Tryz.func41, Tryz.ntmps41
  by_cases d0 : d = 0
  · have d0b : ((d : Int) == 0) = true := by simp [d0]
    have d0c : ((d : Int) = 0) = True := by simp [d0]
    replace d0 := Aside.mk d0
    go_wp2_with (first
      | (go_at_call 60; refine (pow_calls d hd _).mono ?_; rintro e w1 ⟨rfl, h1⟩; rw [hp.out]; replace HB := step HB h1)
      | (go_at_call 25; refine (dec_calls _ (by omega) (by omega) _ (hI.same HB)).mono ?_; rintro e w2 ⟨rfl, h2⟩; replace HB := step HB h2))
    all_goals (try (exfalso; omega))
    go_ret
    exact ⟨_, rfl, HB, fun h => absurd d0.out (by omega)⟩
  · have hl := hl (by omega)
    have d0b : ((d : Int) == 0) = false := by simp [d0]
    have d0c : ((d : Int) = 0) = False := by simp [d0]
    replace d0 := Aside.mk d0
    go_wp2_with (first
      | (go_at_call 60; refine (pow_calls d hd _).mono ?_; rintro e w1 ⟨rfl, h1⟩; rw [hp.out]; replace HB := step HB h1)
      | (go_at_call 25; refine (dec_calls _ (by omega) (by omega) _ (hI.same HB)).mono ?_; rintro e w2 ⟨rfl, h2⟩; replace HB := step HB h2)
      | (go_at_call 61; rw [show (d : Int) - ((Lib.itoa r).length : Int) = ((d - (Lib.itoa r).length : Nat) : Int) by omega]; refine (Tryz.strings_Repeat _ _ _ (by omega) (by show 1 * _ ≤ _; omega)).mono ?_; rintro e w3 ⟨rfl, h3⟩; replace HB := step HB h3))
    all_goals (try (exfalso; omega))
    go_ret
    refine ⟨_, rfl, HB, fun h => ?_⟩
    have hp7 := h7 h
    subst h
    rw [hp7] at hq hr
    rw [show (⟨#[46]⟩ : ByteArray) = ⟨[46].toArray⟩ from rfl, show (⟨#[45]⟩ : ByteArray) = ⟨[45].toArray⟩ from rfl, Pp.ba_mk, Pp.ba_mk, Pp.ba_mk, Pp.ba_mk]
    unfold absL padL
    rw [hq, hr]
    simp
theorem dt_pos (M : Int) (d : Nat) (h0 : 0 ≤ M) (h1 : M < 1000000000000000000) (hd : d ≤ 9) (w : World) (hI : IR w) :
    Calls Tryz.prog 41 #[.int .i64 M, .int .i64 (d : Int)] w fun e w' => ∃ T : ByteArray, e = .returned (.string T) ∧ Below w.heap.size w w' ∧ (d = 7 → T.data.toList = absL M) := by
  obtain ⟨p, q, r, hp, p0, p0', hq, hr, q0, q1, r0, r1, hl, h7⟩ := dt_facts M d (by omega) h1 hd
  have HB := Below.refl w.heap.size w
  have hn : ¬ M < 0 := by omega
  have wM : wrap64 M = M := wid (by omega) (by omega)
  have wq : wrap64 q = q := wid (by omega) (by omega)
  have lq := Pp.itoa_len q (by omega) (by omega)
  have lr := Pp.itoa_len r (by omega) (by omega)
  have lz := rep_len (d - (Lib.itoa r).length)
  replace hp := Aside.mk hp
  go_enter Tryz.func41, Tryz.ntmps41
  by_cases d0 : d = 0
  · have d0b : ((d : Int) == 0) = true := by simp [d0]
    have d0c : ((d : Int) = 0) = True := by simp [d0]
    replace d0 := Aside.mk d0
    go_wp2_with (first
      | (go_at_call 60; refine (pow_calls d hd _).mono ?_; rintro e w1 ⟨rfl, h1⟩; rw [hp.out]; replace HB := step HB h1)
      | (go_at_call 25; refine (dec_calls _ (by omega) (by omega) _ (hI.same HB)).mono ?_; rintro e w2 ⟨rfl, h2⟩; replace HB := step HB h2))
    all_goals (try (exfalso; omega))
    go_ret
    exact ⟨_, rfl, HB, fun h => absurd d0.out (by omega)⟩
  · have hl := hl (by omega)
    have d0b : ((d : Int) == 0) = false := by simp [d0]
    have d0c : ((d : Int) = 0) = False := by simp [d0]
    replace d0 := Aside.mk d0
    go_wp2_with (first
      | (go_at_call 60; refine (pow_calls d hd _).mono ?_; rintro e w1 ⟨rfl, h1⟩; rw [hp.out]; replace HB := step HB h1)
      | (go_at_call 25; refine (dec_calls _ (by omega) (by omega) _ (hI.same HB)).mono ?_; rintro e w2 ⟨rfl, h2⟩; replace HB := step HB h2)
      | (go_at_call 61; rw [show (d : Int) - ((Lib.itoa r).length : Int) = ((d - (Lib.itoa r).length : Nat) : Int) by omega]; refine (Tryz.strings_Repeat _ _ _ (by omega) (by show 1 * _ ≤ _; omega)).mono ?_; rintro e w3 ⟨rfl, h3⟩; replace HB := step HB h3))
    all_goals (try (exfalso; omega))
    go_ret
    refine ⟨_, rfl, HB, fun h => ?_⟩
    have hp7 := h7 h
    subst h
    rw [hp7] at hq hr
    rw [show (⟨#[46]⟩ : ByteArray) = ⟨[46].toArray⟩ from rfl, show (⟨#[]⟩ : ByteArray) = ⟨[].toArray⟩ from rfl, Pp.ba_mk, Pp.ba_mk, Pp.ba_mk, Pp.ba_mk]
    unfold absL padL
    rw [hq, hr]
    simp
theorem dt_calls (m : Int) (d : Nat) (hm0 : -1000000000000000000 < m) (hm : m < 1000000000000000000) (hd : d ≤ 9) (w : World) (hI : IR w) :
    Calls Tryz.prog 41 #[.int .i64 m, .int .i64 (d : Int)] w fun e w' => ∃ T : ByteArray, e = .returned (.string T) ∧ Below w.heap.size w w' ∧ (d = 7 → T.data.toList = dgL m) := by
  unfold dgL
  by_cases hn : m < 0
  · rw [if_pos hn]
    have := dt_neg (-m) d (by omega) (by omega) hd w hI
    rwa [Int.neg_neg] at this
  · rw [if_neg hn]
    exact dt_pos m d (by omega) (by omega) hd w hI
end Go.Proofs.YtegdoadciojpaaaGreatDoor.Rt
