/-
  Reading places, the program's side: a number with decimals is read.
-/
import Derived.Test.YtegdoadciojpaaaGreatDoorT2
import Derived.Laws.IdiomStrings
namespace Go.Proofs.YtegdoadciojpaaaGreatDoor.Rt
open Go Go.RowKit Go.Proofs.YtegdoadciojpaaaGreatDoor.Rq
set_option maxRecDepth 100000
set_option linter.unusedVariables false
set_option linter.unusedSimpArgs false
theorem within_calls (a b c : Int) (w : World) : Calls Tryz.prog 33 #[.int .i64 a, .int .i64 b, .int .i64 c] w fun e w' => e = .returned (.bool (decide (b ≤ a) && decide (a ≤ c))) ∧ Below w.heap.size w w' := by
  refine (Pr.impl_within.calls a b c (decide (b ≤ a) && decide (a ≤ c)) w ?_).mono fun e w' he => ⟨he.1, he.2.below⟩
  unfold Pr.impl_within.f
  by_cases h : b ≤ a <;> simp [h]
def cw (s : ByteArray) : List UInt8 := (Lib.cut s.data.toList [46]).1
def cp (s : ByteArray) : List UInt8 := (Lib.cut s.data.toList [46]).2.1
def cf (s : ByteArray) : Bool := (Lib.cut s.data.toList [46]).2.2
theorem cut_calls (s : ByteArray) (w : World) (hI : IR w) (hs : s.size ≤ 2000000) (sep : ByteArray) :
    Calls Tryz.prog 21 #[.string s, .string sep] w fun e w' => e = .returned (.tuple #[.string ⟨(Lib.cut s.data.toList sep.data.toList).1.toArray⟩, .string ⟨(Lib.cut s.data.toList sep.data.toList).2.1.toArray⟩, .bool (Lib.cut s.data.toList sep.data.toList).2.2]) ∧ Below w.heap.size w w' := by
  obtain ⟨m, hm⟩ := hI.max
  refine (Tryz.strings_Cut s sep m w (by omega) hm).mono fun e w' he => ?_
  obtain ⟨e1, n, rfl⟩ := he
  exact ⟨e1, below_drewN w n⟩
structure RD (s : ByteArray) (w : World) (e : Ending) (w' : World) : Prop where
  out : ∃ (m d : Int) (ok : Bool), e = .returned (.tuple #[.int .i64 m, .int .i64 d, .bool ok]) ∧ Below w.heap.size w w' ∧ (ok = true → d = 7 → s.data.toList = dgL m ∧ -10000000000000000 < m ∧ m < 10000000000000000)
    ∧ ∀ n : Int, -10000000000000000 < n → n < 10000000000000000 → s.data.toList = dgL n → ok = true ∧ d = 7 ∧ m = n
/-- The text is a number with decimals, as far as its bytes tell. -/
def okT (s : ByteArray) : Bool :=
  (cf s == decide (0 < (cp s).length)) && (decide ((cp s).length ≤ 9) && ((decide (1 ≤ (Lib.trimPrefix (cw s) [45]).length) && decide ((Lib.trimPrefix (cw s) [45]).length ≤ 9)) && (Lib.trimS (Lib.trimPrefix (cw s) [45] ++ cp s) digB).isEmpty))
theorem dig_step (L : List UInt8) (hd : L.all isDig = true) (i : Nat) (hi : i < L.length) (hl : L.length ≤ 18) (ch : UInt8) (hch : L.getD i 0 = ch) :
    wrap64 (wrap64 (10 * ((Rp.val 0 (L.take i) : Nat) : Int)) + ((ch.toNat : Int) - 48) % 256) = ((Rp.val 0 (L.take (i + 1)) : Nat) : Int) := by
  have hg : L[i] = ch := by rw [← hch, List.getD_eq_getElem?_getD, List.getElem?_eq_getElem hi]; rfl
  have e : L.take (i + 1) = L.take i ++ [ch] := by
    rw [List.take_succ_eq_append_getElem hi, hg]
  have hc : isDig ch = true := by
    refine List.all_eq_true.1 hd ch ?_
    rw [← hg]
    exact List.getElem_mem hi
  simp only [isDig, Bool.and_eq_true, decide_eq_true_eq] at hc
  have ht : (L.take i).all isDig = true := List.all_eq_true.2 fun x hx => List.all_eq_true.1 hd x (List.mem_of_mem_take hx)
  have hv := val_lt (L.take i) 0 0 ht (by decide)
  have hp : 10 ^ (0 + (L.take i).length) ≤ 10 ^ 17 := Nat.pow_le_pow_right (by decide) (by rw [List.length_take]; omega)
  have hp' : Rp.val 0 (L.take i) < 100000000000000000 := Nat.lt_of_lt_of_le hv hp
  rw [e, Rp.val_app, val_cons]
  generalize Rp.val 0 (L.take i) = v at *
  have : Rp.val (v * 10 + (ch.toNat - 48)) [] = v * 10 + (ch.toNat - 48) := by exact rfl
  rw [this, wid (n := 10 * (v : Int)) (by omega) (by omega), wid (by omega) (by omega)]
  omega
theorem un_cut {n : Int} (h0 : -10000000000000000 < n) (h1 : n < 10000000000000000) {s : ByteArray} (e : s.data.toList = dgL n) : ∃ U P : List UInt8, cw s = (if n < 0 then 45 :: U else U) ∧ cp s = P ∧ cf s = true ∧ Lib.trimPrefix (cw s) [45] = U ∧ U.all isDig = true ∧ P.all isDig = true ∧ 1 ≤ U.length ∧ U.length ≤ 9 ∧ P.length = 7 ∧ Rp.val 0 (U ++ P) = n.natAbs := by
  obtain ⟨U, P, _, u, p, u1, u9, p7, hv, hc, _⟩ := dgL_cut n h0 h1
  refine ⟨U, P, ?_, ?_, ?_, ?_, u, p, u1, u9, p7, hv⟩
  · unfold cw; rw [e, hc]
  · unfold cp; rw [e, hc]
  · unfold cf; rw [e, hc]
  · unfold cw
    rw [e, hc]
    show un _ = U
    by_cases hn : n < 0
    · rw [if_pos hn]; exact un_neg U
    · rw [if_neg hn]; exact un_dig u
theorem okT_dg {s : ByteArray} {n : Int} (h0 : -10000000000000000 < n) (h1 : n < 10000000000000000) (e : s.data.toList = dgL n) : okT s = true := by
  obtain ⟨U, P, e1, e2, e3, e4, u, p, u1, u9, p7, _⟩ := un_cut h0 h1 e
  unfold okT
  rw [e4, e2, e3]
  have ht : Lib.trimS (U ++ P) digB = [] := (trim_all _).2 (by rw [List.all_append, u, p]; rfl)
  rw [ht]
  simp [u1, u9, p7]
theorem fin_RD {s T' : ByteArray} {w w' : World} {m : Int} {V : Nat} (hb : Below w.heap.size w w') (hm : (Lib.trimPrefix (cw s) [45] ≠ cw s ∧ m = -(V : Int)) ∨ (Lib.trimPrefix (cw s) [45] = cw s ∧ m = (V : Int))) (hV : Rp.val 0 (Lib.trimPrefix (cw s) [45] ++ cp s) = V) (hV2 : (cp s).length = 7 → V < 10000000000000000)
    (h7 : (cp s).length = 7 → T'.data.toList = dgL m) : RD s w (.returned (.tuple #[.int .i64 m, .int .i64 ((cp s).length : Int), .bool (T'.toList == s.toList)])) w' := by
  refine ⟨m, _, _, rfl, hb, fun h1 h2 => ⟨?_, by have := hV2 (by omega); rcases hm with h | h <;> omega, by have := hV2 (by omega); rcases hm with h | h <;> omega⟩, fun n n0 n1 e => ?_⟩
  · have := eq_of_beq h1
    rw [← h7 (by omega), ← ByteArray.toList_eq, ← ByteArray.toList_eq, this]
  · obtain ⟨U, P, e1, e2, e3, e4, u, p, u1, u9, p7, hv⟩ := un_cut n0 n1 e
    rw [e4, e2, hv] at hV
    rw [e4, e1] at hm
    have hmn : m = n := by
      by_cases hn : n < 0
      · rw [if_pos hn] at hm
        rcases hm with h | h
        · omega
        · have := congrArg List.length h.1; simp at this
      · rw [if_neg hn] at hm
        rcases hm with h | h
        · exact absurd rfl h.1
        · omega
    refine ⟨?_, by rw [e2, p7]; rfl, hmn⟩
    rw [beq_iff_eq, ByteArray.toList_eq, ByteArray.toList_eq, e, h7 (by rw [e2, p7]), hmn]
theorem rdig_no (s : ByteArray) (w : World) (hI : IR w) (hs : s.size ≤ 2000000) (hno : okT s = false) :
    Calls Tryz.prog 32 #[.string s] w (RD s w) := by
  have HB := Below.refl w.heap.size w
  obtain ⟨W, hW⟩ : ∃ W, (Lib.cut s.data.toList [46]).1 = W := ⟨_, rfl⟩
  obtain ⟨P, hP⟩ : ∃ P, (Lib.cut s.data.toList [46]).2.1 = P := ⟨_, rfl⟩
  obtain ⟨f, hf⟩ : ∃ f, (Lib.cut s.data.toList [46]).2.2 = f := ⟨_, rfl⟩
  obtain ⟨U, hU⟩ : ∃ U, Lib.trimPrefix W [45] = U := ⟨_, rfl⟩
  have hok := hno
  unfold okT cf cw cp at hok
  rw [hW, hP, hf, hU] at hok
  have hRD : Aside (∀ w', Below w.heap.size w w' → RD s w (.returned (.tuple #[.int .i64 0, .int .i64 0, .bool false])) w') := ⟨fun w' hb => ⟨0, 0, false, rfl, hb, (fun h => by cases h), fun n n0 n1 e => by rw [okT_dg n0 n1 e] at hno; cases hno⟩⟩
  clear hno
  obtain ⟨X, hX⟩ : ∃ X, Lib.trimS (U ++ P) digB = X := ⟨_, rfl⟩
  rw [hX] at hok
  replace hX := Aside.mk hX
  have wl := cut_len 46 s.data.toList
  rw [hW, hP, show s.data.toList.length = s.size from rfl] at wl
  have ul : U.length ≤ W.length := by
    rw [← hU]
    unfold Lib.trimPrefix
    split
    · simp
    · exact Nat.le_refl _
  replace hok := Aside.mk hok
  go_enter Tryz.func32, Tryz.ntmps32
  go_wp2_with (first
    | (go_at_call 21; refine (cut_calls s _ (hI.same HB) hs _).mono ?_; rintro e w1 ⟨rfl, h1⟩; replace HB := step HB h1; rw [hW, hP, hf])
    | (go_at_call 26; refine (Tryz.strings_TrimPrefix _ _ _).mono ?_; rintro e w2 ⟨rfl, rfl⟩; rw [hU])
    | (go_at_call 33; refine (within_calls _ _ _ _).mono ?_; rintro e w3 ⟨rfl, h3⟩; replace HB := step HB h3)
    | (go_at_call 40; rw [Pp.ba_mk]; refine (Tryz.strings_Trim _ _ _ (by show (U ++ P).length ≤ _; rw [List.length_append]; omega) (by decide) (ascii_of_all (by decide))).mono ?_; rintro e w4 ⟨rfl, h4⟩; replace HB := step HB h4; rw [show Lib.trimS (⟨(U ++ P).toArray⟩ : ByteArray).data.toList (⟨#[48, 49, 50, 51, 52, 53, 54, 55, 56, 57]⟩ : ByteArray).data.toList = X from hX.out]))
  all_goals (try (exfalso; omega))
  all_goals (try (go_ret3; exact hRD.out _ HB))
  exfalso
  have h1 := (by assumption : f = decide (0 < P.length))
  have h3 := (by assumption : 1 ≤ (U.length : Int) ∧ (U.length : Int) ≤ 9)
  have h4 := (by assumption : (P.length : Int) ≤ 9 ∧ (!X.isEmpty) = false)
  have h5 : X.isEmpty = true := by simpa using h4.2
  have h6 := hok.out
  rw [h5, h1, decide_eq_true (show P.length ≤ 9 by omega), decide_eq_true (show 1 ≤ U.length by omega), decide_eq_true (show U.length ≤ 9 by omega)] at h6
  simp at h6
theorem rdig_yes (s : ByteArray) (w : World) (hI : IR w) (hs : s.size ≤ 2000000) (hok : okT s = true) :
    Calls Tryz.prog 32 #[.string s] w (RD s w) := by
  have HB := Below.refl w.heap.size w
  obtain ⟨W, hW⟩ : ∃ W, (Lib.cut s.data.toList [46]).1 = W := ⟨_, rfl⟩
  obtain ⟨P, hP⟩ : ∃ P, (Lib.cut s.data.toList [46]).2.1 = P := ⟨_, rfl⟩
  obtain ⟨f, hf⟩ : ∃ f, (Lib.cut s.data.toList [46]).2.2 = f := ⟨_, rfl⟩
  obtain ⟨U, hU⟩ : ∃ U, Lib.trimPrefix W [45] = U := ⟨_, rfl⟩
  obtain ⟨T, hT⟩ : ∃ T, (⟨U.toArray⟩ : ByteArray) ++ ⟨P.toArray⟩ = T := ⟨_, rfl⟩
  have hfin : Aside (∀ (T' : ByteArray) (w' : World) (m : Int) (V : Nat), Below w.heap.size w w' → ((U ≠ W ∧ m = -(V : Int)) ∨ (U = W ∧ m = (V : Int))) → Rp.val 0 (U ++ P) = V → (P.length = 7 → V < 10000000000000000) → (P.length = 7 → T'.data.toList = dgL m) → RD s w (.returned (.tuple #[.int .i64 m, .int .i64 (P.length : Int), .bool (T'.toList == s.toList)])) w') := by
    refine ⟨?_⟩
    rw [← hU, ← hW, ← hP]
    exact fun T' w' m V hb hm hV hV2 h7 => fin_RD hb hm hV hV2 h7
  have hTl : T.data.toList = U ++ P := by rw [← hT, Pp.ba_mk]
  unfold okT cf cw cp at hok
  rw [hW, hP, hf, hU] at hok
  simp only [Bool.and_eq_true, beq_iff_eq, decide_eq_true_eq] at hok
  obtain ⟨f0, p9, ⟨u1, u9⟩, ht⟩ := hok
  have hdig : (U ++ P).all isDig = true := (trim_all _).1 (List.isEmpty_iff.1 ht)
  have hdig := Aside.mk hdig
  have ht' : Lib.trimS T.data.toList [48, 49, 50, 51, 52, 53, 54, 55, 56, 57] = [] := by rw [hTl]; exact List.isEmpty_iff.1 ht
  have hsz : T.size = U.length + P.length := by rw [show T.size = T.data.toList.length from rfl, hTl, List.length_append]
  subst f0
  replace hTl := Aside.mk hTl
  replace ht := Aside.mk ht
  have c1 : decide ((P.length : Int) > 9) = false := decide_eq_false (by omega)
  have c1' : (9 < (P.length : Int)) = False := eq_false (by omega)
  have c2 : decide ((1 : Int) ≤ (U.length : Int)) = true := decide_eq_true (by omega)
  have c3 : decide ((U.length : Int) ≤ 9) = true := decide_eq_true (by omega)
  have c2' : (1 ≤ U.length) = True := eq_true u1
  have c3' : (U.length ≤ 9) = True := eq_true u9
  have c4 : ((U.length : Int) ≤ 9) = True := eq_true (by omega)
  have c5 : ((1 : Int) ≤ (U.length : Int)) = True := eq_true (by omega)
  have kc : ∀ (w : World) (s : ByteArray), (convert 9 58 (.string s)).run Tryz.prog w = .ok (.slice (some ⟨w.heap.size, 0, none⟩) s.size (grownCap w s.size 0 5)) (Lib.bytesWorld w 5 s) := fun w s => Lib.run_convert_string_bytes w 9 58 5 s Tryz.underlying9 Tryz.underlying58 Tryz.underlying5
  go_enter Tryz.func32, Tryz.ntmps32
  go_wp2_with (first
    | (go_at_call 21; refine (cut_calls s _ (hI.same HB) hs _).mono ?_; rintro e w1 ⟨rfl, h1⟩; replace HB := step HB h1; rw [hW, hP, hf])
    | (go_at_call 26; refine (Tryz.strings_TrimPrefix _ _ _).mono ?_; rintro e w2 ⟨rfl, rfl⟩; rw [hU])
    | (go_at_call 33; refine (within_calls _ _ _ _).mono ?_; rintro e w3 ⟨rfl, h3⟩; replace HB := step HB h3)
    | (go_at_call 40; refine (Tryz.strings_Trim _ _ _ (by omega) (by decide) (ascii_of_all (by decide))).mono ?_; rintro e w4 ⟨rfl, h4⟩; replace HB := step HB h4; rw [ht']))
  go_loopg [10, 49] (T.size + 1) (fun kq v10 v49 w' => ∃ i : Nat, v10 = .int .i64 ((Rp.val 0 ((U ++ P).take i) : Nat) : Int) ∧ v49 = .int .i64 (i : Int) ∧ Aside (i + kq = T.size + 1 ∧ i ≤ T.size) ∧ w' = Lib.bytesWorld w4 5 T)
  case atStart => exact ⟨0, rfl, rfl, ⟨by omega, by omega⟩, rfl⟩
  case round =>
    obtain ⟨i, rfl, rfl, hi, rfl⟩ := hrel
    cases gk with
    | zero => exact absurd hi.out (by omega)
    | succ k1 =>
      by_cases c : i < T.size
      · have cb : decide ((i : Int) < (T.size : Int)) = true := decide_eq_true (by omega)
        have hcell := Lib.bytesWorld_cell w4 5 T i c
        obtain ⟨ch, hch⟩ : ∃ ch, T.data.toList.getD i 0 = ch := ⟨_, rfl⟩
        rw [hch] at hcell
        rw [hTl.out] at hch
        replace hch := Aside.mk hch
        go_wp2
        go_roundg k1
        case measure => have := hi.out; omega
        case rel =>
          refine ⟨i + 1, ?_, by simp, ⟨by have := hi.out; omega, by omega⟩, rfl⟩
          rw [dig_step (U ++ P) hdig.out i (by rw [List.length_append]; omega) (by rw [List.length_append]; omega) ch hch.out]
      · have cb : decide ((i : Int) < (T.size : Int)) = false := decide_eq_false (by omega)
        have hi' : i = T.size := by have := hi.out; omega
        have htk : (U ++ P).take i = U ++ P := List.take_of_length_le (by rw [List.length_append]; omega)
        have HB5 : Below w.heap.size w (Lib.bytesWorld w4 5 T) := step HB (Lib.bytesWorld_below _ _ _)
        rw [htk]
        clear htk hi'
        obtain ⟨V, hV⟩ : ∃ V, Rp.val 0 (U ++ P) = V := ⟨_, rfl⟩
        rw [hV]
        have hV2 : V < 1000000000000000000 := by
          have := val_lt (U ++ P) 0 0 hdig.out (by decide)
          rw [hV] at this
          have h18 : 10 ^ (0 + (U ++ P).length) ≤ 10 ^ 18 := Nat.pow_le_pow_right (by decide) (by rw [List.length_append]; omega)
          exact Nat.lt_of_lt_of_le this h18
        have hV3 : P.length = 7 → V < 10000000000000000 := fun h7 => by
          have := val_lt (U ++ P) 0 0 hdig.out (by decide)
          rw [hV] at this
          have h16 : 10 ^ (0 + (U ++ P).length) ≤ 10 ^ 16 := Nat.pow_le_pow_right (by decide) (by rw [List.length_append]; omega)
          exact Nat.lt_of_lt_of_le this h16
        replace hV3 := Aside.mk hV3
        have hw : wrap64 (-(V : Int)) = -(V : Int) := wid (by omega) (by omega)
        replace hV := Aside.mk hV
        go_wp2_with (first | (go_at_call 41; refine (dt_calls _ P.length (by omega) (by omega) (by omega) _ (hI.same HB5)).mono ?_; rintro e w6 ⟨T', rfl, h6, h7⟩; replace HB5 := step HB5 h6; replace h7 := Aside.mk h7))
        · go_ret3
          have h := (by assumption : (!U == W) = true)
          refine hfin.out _ _ _ _ HB5 (.inl ⟨fun e => ?_, rfl⟩) hV.out hV3.out h7.out
          rw [e] at h; simp at h
        · go_ret3
          have h := (by assumption : (!U == W) = false)
          refine hfin.out _ _ _ _ HB5 (.inr ⟨by simpa using h, rfl⟩) hV.out hV3.out h7.out
theorem rdig_calls (s : ByteArray) (w : World) (hI : IR w) (hs : s.size ≤ 2000000) : Calls Tryz.prog 32 #[.string s] w (RD s w) := by
  cases h : okT s with
  | false => exact rdig_no s w hI hs h
  | true => exact rdig_yes s w hI hs h
end Go.Proofs.YtegdoadciojpaaaGreatDoor.Rt
