/-
  Reading a number: what ReadDecimal gives (over contracts of the shelf).
-/
import Derived.Test.YtegdoadciojpaaaDoorKP8
import Derived.Test.YtegdoadciojpaaaDoorSr
import Derived.Test.YtegdoadciojpaaaDoorRp
import Derived.Test.YtegdoadciojpaaaDoorChecked
import Derived.KernelRfl
import Derived.Tactics
import Derived.WalkKit
namespace Go.Proofs.YtegdoadciojpaaaDoor.Ev
open Go Go.RowKit
set_option maxRecDepth 100000
set_option linter.unusedVariables false
set_option linter.unusedSimpArgs false
/-- The number that a text spells, of at most 18 digits. -/
def numL (l : List UInt8) : Option Int := match Lib.atoiAll l with
  | .ok v => if Lib.itoa v = l ∧ (Lib.trimPrefix l [45]).length ≤ 18 then some v else none
  | _ => none
def rdV (s : ByteArray) : Int := match numL s.data.toList with
  | some v => v
  | none => 0
def rdB (s : ByteArray) : Bool := (numL s.data.toList).isSome
theorem numL_ok {l : List UInt8} {v : Int} (h : Lib.atoiAll l = .ok v) : numL l = if Lib.itoa v = l ∧ (Lib.trimPrefix l [45]).length ≤ 18 then some v else none := by
  unfold numL; rw [h]
theorem numL_no {l : List UInt8} (h : ∀ v, Lib.atoiAll l ≠ .ok v) : numL l = none := by
  unfold numL
  split
  · rename_i v e; exact absurd e (h v)
  · rfl
theorem dec_calls (n : Int) (h0 : -9223372036854775808 ≤ n) (h1 : n ≤ 9223372036854775807) (w : World) (hI : Inv0 w) : Calls Tryd.prog 34 #[.int .i64 n] w fun e w' => e = .returned (.string ⟨(Lib.itoa n).toArray⟩) ∧ Below w.heap.size w w' := by
  go_enter Tryd.func34, Tryd.ntmps34
  go_wp2_with (first
    | (go_at_call 51; refine (Tryd.strconv_FormatInt_10 _ h0 h1 _ (tab_of hI)).mono ?_; rintro e w' ⟨rfl, q, os, rfl⟩))
  go_ret
  exact ⟨rfl, below_grow1 w q os⟩
theorem rd_ok (s : ByteArray) (w : World) (hI : Inv0 w) (hs : s.size ≤ 2000000) (v : Int) (hv : Lib.parseIntB 64 s.data.toList = .ok v) : Calls Tryd.prog 38 #[.string s] w fun e w' => e = .returned (.tuple #[.int .i64 (rdV s), .bool (rdB s)]) ∧ Below w.heap.size w w' := by
  have ha : Lib.atoiAll s.data.toList = .ok v := by rw [← Lib.parseIntB_64]; exact hv
  have hb := Lib.atoiAll_bounds ha
  have hn := numL_ok ha
  have below1 : ∀ w', (w' = w ∨ ∃ t, w' = Lib.bytesWorld w 5 t) → Below w.heap.size w w' := fun w' h => by
    rcases h with rfl | ⟨t, rfl⟩
    · exact Below.refl _ _
    · exact Lib.bytesWorld_below _ _ _
  go_enter Tryd.func38, Tryd.ntmps38
  go_wp2_with (first
    | (go_at_call 54; refine (Tryd.strconv_ParseInt_10_at64_ok _ (by omega) v hv _).mono ?_; rintro e w' ⟨rfl, h⟩; replace h := below1 _ h)
    | (go_at_call 34; refine (dec_calls v hb.1 (by omega) _ (hI.below h (Nat.le_refl _))).mono ?_; rintro e w'' ⟨rfl, hb⟩; replace hb := h.trans (hb.mono h.size))
    | (go_at_call 55; refine (Tryd.strings_TrimPrefix _ _ _).mono ?_; rintro e w3 ⟨rfl, rfl⟩))
  · go_ret2
    have h2 : 18 < ((Lib.trimPrefix s.data.toList [45]).length : Int) := by assumption
    have e : numL s.data.toList = none := by rw [hn, if_neg (by omega)]
    refine ⟨?_, by assumption⟩
    unfold rdV rdB; rw [e]; rfl
  · go_ret2
    have h1 : Lib.itoa v = s.toList := by assumption
    have h1' : Lib.itoa v = s.data.toList := by rw [h1, ByteArray.toList_eq]
    have h2 : ((Lib.trimPrefix s.data.toList [45]).length : Int) ≤ 18 := by assumption
    have e : numL s.data.toList = some v := by rw [hn, if_pos ⟨h1', by omega⟩]
    refine ⟨?_, by assumption⟩
    unfold rdV rdB; rw [e]; rfl
  · go_ret2
    have h1 : ¬ Lib.itoa v = s.toList := by assumption
    have h1' : ¬ Lib.itoa v = s.data.toList := by rw [← ByteArray.toList_eq]; exact h1
    have e : numL s.data.toList = none := by rw [hn, if_neg (fun k => h1' k.1)]
    refine ⟨?_, by assumption⟩
    unfold rdV rdB; rw [e]; rfl
theorem rd_bad (s : ByteArray) (w : World) (hI : Inv0 w) (hs : s.size ≤ 2000000) (hv : Lib.parseIntB 64 s.data.toList = Lib.parseIntB 64 [] ∨ Lib.parseIntB 64 s.data.toList = .range) : Calls Tryd.prog 38 #[.string s] w fun e w' => e = .returned (.tuple #[.int .i64 (rdV s), .bool (rdB s)]) ∧ Below w.heap.size w w' := by
  have e : numL s.data.toList = none := numL_no fun v hv' => by
    rw [← Lib.parseIntB_64] at hv'
    rcases hv with h | h
    · have h2 := h.symm.trans hv'
      cases (show (Lib.parseIntB 64 []).ctorIdx = 0 from by rw [h2]; rfl)
    · rw [h] at hv'; cases hv'
  have row : ∀ g, (g, isErr) ∈ rowsX → ∃ ev, w.cell? ⟨g, 0, none⟩ = some ev ∧ (ev = .nilIface ∨ ∃ te pe, ev = .iface te pe) := fun g hg => by
    obtain ⟨c, t, h1, tp, p, rfl⟩ := hI.2 (g, isErr) hg
    exact ⟨.iface tp p, by rw [cell_of_row w g 0 _ t _ h1]; rfl, .inr ⟨_, _, rfl⟩⟩
  go_enter Tryd.func38, Tryd.ntmps38
  rcases hv with hv | hv
  · obtain ⟨ev, r1, r2⟩ := row 3 (by simp [rowsX])
    go_wp2_with (first
      | (go_at_call 54; refine (Tryd.strconv_ParseInt_10_at64_syntax _ (by omega) hv ev _ r1 r2).mono ?_; rintro e w' ⟨N, rfl, k1, k2, k3⟩))
    go_ret2
    refine ⟨?_, by assumption⟩
    unfold rdV rdB; rw [e]; rfl
  · obtain ⟨ev, r1, r2⟩ := row 4 (by simp [rowsX])
    go_wp2_with (first
      | (go_at_call 54; refine (Tryd.strconv_ParseInt_10_at64_range _ (by omega) hv ev _ r1 r2).mono ?_; rintro e w' ⟨N, rfl, k1, k2, k3⟩))
    go_ret2
    refine ⟨?_, by assumption⟩
    unfold rdV rdB; rw [e]; rfl
theorem rd_calls (s : ByteArray) (w : World) (hI : Inv0 w) (hs : s.size ≤ 2000000) : Calls Tryd.prog 38 #[.string s] w fun e w' => e = .returned (.tuple #[.int .i64 (rdV s), .bool (rdB s)]) ∧ Below w.heap.size w w' := by
  cases hv : Lib.parseIntB 64 s.data.toList
  · exact rd_ok s w hI hs _ hv
  · exact rd_bad s w hI hs (.inl (hv.trans (by rfl)))
  · exact rd_bad s w hI hs (.inr hv)
end Go.Proofs.YtegdoadciojpaaaDoor.Ev
