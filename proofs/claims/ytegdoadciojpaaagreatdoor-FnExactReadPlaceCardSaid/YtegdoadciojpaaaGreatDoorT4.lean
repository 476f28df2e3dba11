/-
  Reading places, the program's side: angles and points are read.
-/
import Derived.Test.YtegdoadciojpaaaGreatDoorT3
namespace Go.Proofs.YtegdoadciojpaaaGreatDoor.Rt
open Go Go.RowKit Go.Proofs.YtegdoadciojpaaaGreatDoor.Rq
set_option maxRecDepth 100000
set_option linter.unusedVariables false
set_option linter.unusedSimpArgs false
structure RG (s : ByteArray) (w : World) (e : Ending) (w' : World) : Prop where
  out : ∃ (m : Int) (ok : Bool), e = .returned (.tuple #[.int .i64 m, .bool ok]) ∧ Below w.heap.size w w' ∧ (ok = true → s.data.toList = dgL m ∧ -10000000000000000 < m ∧ m < 10000000000000000) ∧ (ok = false → m = 0) ∧ ∀ n : Int, -10000000000000000 < n → n < 10000000000000000 → s.data.toList = dgL n → ok = true ∧ m = n
theorem rdeg_calls (s : ByteArray) (w : World) (hI : IR w) (hs : s.size ≤ 2000000) : Calls Tryz.prog 22 #[.string s] w (RG s w) := by
  have HB := Below.refl w.heap.size w
  go_enter Tryz.func22, Tryz.ntmps22
  go_wp2_with (first
    | (go_at_call 32; refine (rdig_calls s _ (hI.same HB) hs).mono ?_; rintro e w1 ⟨⟨m, d, ok, rfl, h1, h2, h3⟩⟩; replace HB := step HB h1; replace h2 := Aside.mk h2; replace h3 := Aside.mk h3))
  · go_ret2
    have hd := (by assumption : (d != 7) = true)
    exact ⟨⟨0, false, rfl, HB, (fun h => by cases h), fun _ => rfl, fun n n0 n1 e => by have := (h3.out n n0 n1 e).2.1; rw [this] at hd; cases hd⟩⟩
  · go_ret2
    have hd := (by assumption : (d != 7) = false)
    have hok := (by assumption : ok = true)
    have hd7 : d = 7 := by simpa using hd
    exact ⟨⟨m, true, rfl, HB, fun _ => h2.out hok hd7, (fun h => by cases h), fun n n0 n1 e => ⟨rfl, (h3.out n n0 n1 e).2.2⟩⟩⟩
  · go_ret2
    have hok := (by assumption : ¬ ok = true)
    exact ⟨⟨0, false, rfl, HB, (fun h => by cases h), fun _ => rfl, fun n n0 n1 e => absurd (h3.out n n0 n1 e).1 hok⟩⟩
/-- The angle that a text spells. -/
noncomputable def dgR (s : ByteArray) : Option Int := open Classical in if h : ∃ n : Int, -10000000000000000 < n ∧ n < 10000000000000000 ∧ s.data.toList = dgL n then some h.choose else none
theorem rdeg_fn (s : ByteArray) (w : World) (hI : IR w) (hs : s.size ≤ 2000000) : Calls Tryz.prog 22 #[.string s] w fun e w' => e = .returned (.tuple #[.int .i64 ((dgR s).getD 0), .bool (dgR s).isSome]) ∧ Below w.heap.size w w' := by
  refine (rdeg_calls s w hI hs).mono fun e w' ⟨⟨m, ok, he, hb, h1, h2, h3⟩⟩ => ?_
  refine ⟨?_, hb⟩
  unfold dgR
  by_cases h : ∃ n : Int, -10000000000000000 < n ∧ n < 10000000000000000 ∧ s.data.toList = dgL n
  · rw [dif_pos h]
    obtain ⟨n0, n1, ne⟩ := h.choose_spec
    obtain ⟨k1, k2⟩ := h3 _ n0 n1 ne
    subst k1
    rw [he, k2]; rfl
  · rw [dif_neg h]
    have hok : ok = false := by
      cases ok with
      | false => rfl
      | true => exact absurd ⟨m, (h1 rfl).2.1, (h1 rfl).2.2, (h1 rfl).1⟩ h
    subst hok
    rw [he, h2 rfl]; rfl
theorem dgR_some {s : ByteArray} {n : Int} (h : dgR s = some n) : s.data.toList = dgL n ∧ -10000000000000000 < n ∧ n < 10000000000000000 := by
  unfold dgR at h
  split at h
  · rename_i hh
    obtain ⟨n0, n1, ne⟩ := hh.choose_spec
    cases h
    exact ⟨ne, n0, n1⟩
  · cases h
end Go.Proofs.YtegdoadciojpaaaGreatDoor.Rt
