/-
  Reading places, the program's side: numbers in decimal.
-/
import Derived.Test.YtegdoadciojpaaaGreatDoorRn
import Derived.Test.YtegdoadciojpaaaGreatDoorSz
import Derived.Test.YtegdoadciojpaaaGreatDoorChecked
import Derived.Lib.LaidTab
import Derived.KernelRfl
import Derived.Tactics
import Derived.WalkKit
namespace Go.Proofs.YtegdoadciojpaaaGreatDoor.Rt
open Go Go.RowKit Go.Proofs.YtegdoadciojpaaaGreatDoor.Rq
set_option maxRecDepth 100000
set_option linter.unusedVariables false
set_option linter.unusedSimpArgs false
theorem gPow : Tryz.prog.globalNamed "internal/strconv.uint64pow10" = some 3 := by kernel_rfl
/-- What the library's variables hold. -/
structure IR (w : World) : Prop where
  tab : Lib.TabIs Tryz.prog w "internal/strconv.uint64pow10" .u64 Lib.pow10Tab
  max : ∃ m, w.cell? ⟨0, 0, none⟩ = some (.int .i64 m)
  es : ∃ ev, w.cell? ⟨1, 0, none⟩ = some ev ∧ (ev = .nilIface ∨ ∃ te pe, ev = .iface te pe)
  er : ∃ ev, w.cell? ⟨2, 0, none⟩ = some ev ∧ (ev = .nilIface ∨ ∃ te pe, ev = .iface te pe)
theorem cell_lt {w : World} {g o : Nat} {v : Value} (h : w.cell? ⟨g, o, none⟩ = some v) : g < w.heap.size := by
  rcases Nat.lt_or_ge g w.heap.size with k | k
  · exact k
  · simp [World.cell?, Array.getElem?_eq_none k] at h
theorem cell_below {w w' : World} {n g o : Nat} {v : Value} (h : w.cell? ⟨g, o, none⟩ = some v) (hb : Below n w w') (hn : w.heap.size ≤ n) : w'.cell? ⟨g, o, none⟩ = some v := by
  have := hb.block g (Nat.lt_of_lt_of_le (cell_lt h) hn)
  simp only [World.cell?] at h ⊢
  rw [this]; exact h
theorem IR.below {w w' : World} {n : Nat} (h : IR w) (hb : Below n w w') (hn : w.heap.size ≤ n) : IR w' := by
  obtain ⟨m, hm⟩ := h.max
  obtain ⟨e1, h1, k1⟩ := h.es
  obtain ⟨e2, h2, k2⟩ := h.er
  refine ⟨?_, ⟨m, cell_below hm hb hn⟩, ⟨e1, cell_below h1 hb hn, k1⟩, ⟨e2, cell_below h2 hb hn, k2⟩⟩
  have ht := h.tab
  unfold Lib.TabIs World.var? at ht ⊢
  rw [gPow] at ht ⊢
  simp only [Option.bind_some] at ht ⊢
  have h3 : 3 < w.heap.size := by
    rcases Nat.lt_or_ge 3 w.heap.size with k | k
    · exact k
    · rw [Array.getElem?_eq_none k] at ht; cases ht
  rw [hb.block 3 (by omega)]
  exact ht
theorem IR.same {w w' : World} (h : IR w) (hb : Below w.heap.size w w') : IR w' := h.below hb (Nat.le_refl _)
theorem below_grow1 (w : World) (k : Nat) (os : Array Obj) : Below w.heap.size w (Sort.grow (w.drewN k) os) := by
  refine ⟨rfl, rfl, rfl, ?_, fun i hi => ?_⟩
  · show w.heap.size ≤ (w.heap ++ os).size; simp
  · show (w.heap ++ os)[i]? = w.heap[i]?; exact Array.getElem?_append_left hi
theorem below_drewN (w : World) (n : Nat) : Below w.heap.size w (w.drewN n) := ⟨rfl, rfl, rfl, Nat.le_refl _, fun _ _ => rfl⟩
theorem step {a b c : World} (h : Below a.heap.size a b) (k : Below b.heap.size b c) : Below a.heap.size a c := h.trans (k.mono h.size)
theorem dec_calls (n : Int) (h0 : -9223372036854775808 ≤ n) (h1 : n ≤ 9223372036854775807) (w : World) (hI : IR w) : Calls Tryz.prog 25 #[.int .i64 n] w fun e w' => e = .returned (.string ⟨(Lib.itoa n).toArray⟩) ∧ Below w.heap.size w w' := by
  go_enter Tryz.func25, Tryz.ntmps25
  go_wp2_with (first
    | (go_at_call 36; refine (Tryz.strconv_FormatInt_10 _ h0 h1 _ hI.tab).mono ?_; rintro e w' ⟨rfl, q, os, rfl⟩))
  go_ret
  exact ⟨rfl, below_grow1 w q os⟩
theorem rd_ok (s : ByteArray) (w : World) (hI : IR w) (hs : s.size ≤ 2000000) (v : Int) (hv : Lib.parseIntB 64 s.data.toList = .ok v) : Calls Tryz.prog 13 #[.string s] w fun e w' => e = .returned (.tuple #[.int .i64 (rdV s), .bool (rdB s)]) ∧ Below w.heap.size w w' := by
  have ha : Lib.atoiAll s.data.toList = .ok v := by rw [← Lib.parseIntB_64]; exact hv
  have hb := Lib.atoiAll_bounds ha
  have hn := numL_ok ha
  have below1 : ∀ w', (w' = w ∨ ∃ t, w' = Lib.bytesWorld w 5 t) → Below w.heap.size w w' := fun w' h => by
    rcases h with rfl | ⟨t, rfl⟩
    · exact Below.refl _ _
    · exact Lib.bytesWorld_below _ _ _
  go_enter Tryz.func13, Tryz.ntmps13
  go_wp2_with (first
    | (go_at_call 24; refine (Tryz.strconv_ParseInt_10_at64_ok _ (by omega) v hv _).mono ?_; rintro e w' ⟨rfl, h⟩; replace h := below1 _ h)
    | (go_at_call 25; refine (dec_calls v hb.1 (by omega) _ (hI.below h (Nat.le_refl _))).mono ?_; rintro e w'' ⟨rfl, hb⟩; replace hb := h.trans (hb.mono h.size))
    | (go_at_call 26; refine (Tryz.strings_TrimPrefix _ _ _).mono ?_; rintro e w3 ⟨rfl, rfl⟩))
  · go_ret2
    have h2 : 18 < ((Lib.trimPrefix s.data.toList [45]).length : Int) := by assumption
    have e : numL s.data.toList = none := by rw [hn, if_neg (by omega)]
    refine ⟨?_, by assumption⟩
    unfold rdV rdB; rw [e]; rfl
  · go_ret2
    have h1 : Lib.itoa v = s.toList := by assumption
    have h1' : Lib.itoa v = s.data.toList := by rw [h1, ByteArray.toList_eq]
    have h2 : ((Lib.trimPrefix s.data.toList [45]).length : Int) ≤ 18 := by assumption
    have e : numL s.data.toList = some v := by rw [hn, if_pos ⟨h1', by omega⟩]
    refine ⟨?_, by assumption⟩
    unfold rdV rdB; rw [e]; rfl
  · go_ret2
    have h1 : ¬ Lib.itoa v = s.toList := by assumption
    have h1' : ¬ Lib.itoa v = s.data.toList := by rw [← ByteArray.toList_eq]; exact h1
    have e : numL s.data.toList = none := by rw [hn, if_neg (fun k => h1' k.1)]
    refine ⟨?_, by assumption⟩
    unfold rdV rdB; rw [e]; rfl
theorem rd_bad (s : ByteArray) (w : World) (hI : IR w) (hs : s.size ≤ 2000000) (hv : Lib.parseIntB 64 s.data.toList = Lib.parseIntB 64 [] ∨ Lib.parseIntB 64 s.data.toList = .range) : Calls Tryz.prog 13 #[.string s] w fun e w' => e = .returned (.tuple #[.int .i64 (rdV s), .bool (rdB s)]) ∧ Below w.heap.size w w' := by
  have e : numL s.data.toList = none := numL_no fun v hv' => by
    rw [← Lib.parseIntB_64] at hv'
    rcases hv with h | h
    · have h2 := h.symm.trans hv'
      cases (show (Lib.parseIntB 64 []).ctorIdx = 0 from by rw [h2]; rfl)
    · rw [h] at hv'; cases hv'
  obtain ⟨ev, r1, r2⟩ := hI.es
  obtain ⟨ev', r1', r2'⟩ := hI.er
  go_enter Tryz.func13, Tryz.ntmps13
  rcases hv with hv | hv
  · go_wp2_with (first
      | (go_at_call 24; refine (Tryz.strconv_ParseInt_10_at64_syntax _ (by omega) hv ev _ r1 r2).mono ?_; rintro e w' ⟨N, rfl, k1, k2, k3⟩))
    go_ret2
    refine ⟨?_, by assumption⟩
    unfold rdV rdB; rw [e]; rfl
  · go_wp2_with (first
      | (go_at_call 24; refine (Tryz.strconv_ParseInt_10_at64_range _ (by omega) hv ev' _ r1' r2').mono ?_; rintro e w' ⟨N, rfl, k1, k2, k3⟩))
    go_ret2
    refine ⟨?_, by assumption⟩
    unfold rdV rdB; rw [e]; rfl
theorem rd_calls (s : ByteArray) (w : World) (hI : IR w) (hs : s.size ≤ 2000000) : Calls Tryz.prog 13 #[.string s] w fun e w' => e = .returned (.tuple #[.int .i64 (rdV s), .bool (rdB s)]) ∧ Below w.heap.size w w' := by
  cases hv : Lib.parseIntB 64 s.data.toList
  · exact rd_ok s w hI hs _ hv
  · exact rd_bad s w hI hs (.inl (hv.trans (by rfl)))
  · exact rd_bad s w hI hs (.inr hv)
/-- Powers of ten. -/
theorem pow_calls (d : Nat) (hd : d ≤ 9) (w : World) : Calls Tryz.prog 60 #[.int .i64 (d : Int)] w fun e w' => e = .returned (.int .i64 ((10 ^ d : Nat) : Int)) ∧ Below w.heap.size w w' := by
  have hf : Pr.impl_powerOfTen.f 12 (d : Int) = some ((10 ^ d : Nat) : Int) := by
    match d, hd with
    | 0, _ | 1, _ | 2, _ | 3, _ | 4, _ | 5, _ | 6, _ | 7, _ | 8, _ | 9, _ => decide +kernel
    | n + 10, h => exact absurd h (by omega)
  refine (Pr.impl_powerOfTen.calls 12 _ _ w hf).mono fun e w' he => ⟨he.1, ?_⟩
  have := he.2
  exact this.below
end Go.Proofs.YtegdoadciojpaaaGreatDoor.Rt
