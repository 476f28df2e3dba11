/-
  Plain laws: what the specification's ReadProjection gives.
-/
import Derived.Test.YtegdoadciojpaaaDoorPFnExactReadProjectionx4
import Derived.Test.YtegdoadciojpaaaDoorKR3
namespace Go.Proofs.YtegdoadciojpaaaDoor.Rq
open Go Go.RowKit Go.Lib Go.Proofs.YtegdoadciojpaaaDoor.PFnExactReadProjection Go.Proofs.YtegdoadciojpaaaDoorW.PrintWords Go.Proofs.YtegdoadciojpaaaDoorW.PrintLast Go.Proofs.YtegdoadciojpaaaDoorW.PrintMore
open Go.Proofs.YtegdoadciojpaaaDoor.Ev (numL rdV rdB rdI rdI_val wds wd kindOf pjW p0 names eqStr F_spec_l17Ok t_spec_l17Ok F_spec_l11Ok t_spec_l11Ok F_spec_l17Standard t_spec_l17Standard F_spec_l00In t_spec_l00In in_eq wi Proj)
set_option maxRecDepth 100000
set_option linter.unusedVariables false
set_option linter.unusedSimpArgs false
/-! ### names -/
theorem names_f : spec_l17Names.f = some Ev.names := by kernel_rfl
theorem eq_iff (a b : ByteArray) : (a.toList = b.toList) ↔ Ev.eqStr a b = true := by
  unfold Ev.eqStr; rw [ByteArray.toList_eq, ByteArray.toList_eq]; simp
theorem nm_step (k : Nat) (s : ByteArray) (i : Nat) (h : i < 17) : spec_ProjectionNamed.l0 (k + 1) s Ev.names (i : Int) = if Ev.eqStr (Ev.names.getD i ByteArray.empty) s = true then some (i : Int) else spec_ProjectionNamed.l0 k s Ev.names ((i + 1 : Nat) : Int) := by
  have hl : Ev.names.length = 17 := by decide +kernel
  have w1 : wrap64 ((i : Int) + 1) = ((i + 1 : Nat) : Int) := by rw [wid (by omega) (by omega)]; omega
  rw [spec_ProjectionNamed.l0, if_pos (by omega), if_pos (by omega), w1]
  have e : rdOf ByteArray.empty Ev.names (i : Int) = Ev.names.getD i ByteArray.empty := by simp [rdOf]
  rw [e]
  by_cases c : Ev.eqStr (Ev.names.getD i ByteArray.empty) s = true
  · rw [if_pos ((eq_iff _ _).2 c), if_pos c]
  · rw [if_neg (fun k => c ((eq_iff _ _).1 k)), if_neg c]
theorem nm_end (k : Nat) (s : ByteArray) : spec_ProjectionNamed.l0 (k + 1) s Ev.names ((17 : Nat) : Int) = some 0 := by
  have hl : Ev.names.length = 17 := by decide +kernel
  rw [spec_ProjectionNamed.l0, if_neg (by omega)]
theorem named0 (s : ByteArray) : spec_ProjectionNamed.f 20 s = some (Ev.kindOf s).val := by
  unfold spec_ProjectionNamed.f
  rw [names_f]
  simp only [Option.bind_some]
  rw [show (1 : Int) = ((1 : Nat) : Int) from rfl]
  rw [nm_step 19 s 1 (by decide), nm_step 18 s 2 (by decide), nm_step 17 s 3 (by decide), nm_step 16 s 4 (by decide), nm_step 15 s 5 (by decide), nm_step 14 s 6 (by decide), nm_step 13 s 7 (by decide), nm_step 12 s 8 (by decide), nm_step 11 s 9 (by decide), nm_step 10 s 10 (by decide), nm_step 9 s 11 (by decide), nm_step 8 s 12 (by decide), nm_step 7 s 13 (by decide), nm_step 6 s 14 (by decide), nm_step 5 s 15 (by decide), nm_step 4 s 16 (by decide), nm_end 3 s]
  unfold Ev.kindOf
  generalize Ev.eqStr (Ev.names.getD 1 ByteArray.empty) s = b1
  generalize Ev.eqStr (Ev.names.getD 2 ByteArray.empty) s = b2
  generalize Ev.eqStr (Ev.names.getD 3 ByteArray.empty) s = b3
  generalize Ev.eqStr (Ev.names.getD 4 ByteArray.empty) s = b4
  generalize Ev.eqStr (Ev.names.getD 5 ByteArray.empty) s = b5
  generalize Ev.eqStr (Ev.names.getD 6 ByteArray.empty) s = b6
  generalize Ev.eqStr (Ev.names.getD 7 ByteArray.empty) s = b7
  generalize Ev.eqStr (Ev.names.getD 8 ByteArray.empty) s = b8
  generalize Ev.eqStr (Ev.names.getD 9 ByteArray.empty) s = b9
  generalize Ev.eqStr (Ev.names.getD 10 ByteArray.empty) s = b10
  generalize Ev.eqStr (Ev.names.getD 11 ByteArray.empty) s = b11
  generalize Ev.eqStr (Ev.names.getD 12 ByteArray.empty) s = b12
  generalize Ev.eqStr (Ev.names.getD 13 ByteArray.empty) s = b13
  generalize Ev.eqStr (Ev.names.getD 14 ByteArray.empty) s = b14
  generalize Ev.eqStr (Ev.names.getD 15 ByteArray.empty) s = b15
  generalize Ev.eqStr (Ev.names.getD 16 ByteArray.empty) s = b16
  cases b1
  · skip
    cases b2
    · skip
      cases b3
      · skip
        cases b4
        · skip
          cases b5
          · skip
            cases b6
            · skip
              cases b7
              · skip
                cases b8
                · skip
                  cases b9
                  · skip
                    cases b10
                    · skip
                      cases b11
                      · skip
                        cases b12
                        · skip
                          cases b13
                          · skip
                            cases b14
                            · skip
                              cases b15
                              · skip
                                cases b16
                                · skip
                                  rfl
                                · rfl
                              · rfl
                            · rfl
                          · rfl
                        · rfl
                      · rfl
                    · rfl
                  · rfl
                · rfl
              · rfl
            · rfl
          · rfl
        · rfl
      · rfl
    · rfl
  · rfl

theorem named_f {k : Nat} (hk : 20 ≤ k) (s : ByteArray) : spec_ProjectionNamed.f k s = some (Ev.kindOf s).val :=
  mono_to (f := fun k => spec_ProjectionNamed.f k s) (fun k => spec_ProjectionNamed.mono s k) hk (named0 s)
/-! ### valid projections -/
theorem ok0 (p : Proj) : spec_l17Ok.f 6 p.kind.val p.lat0.val p.lon0.val p.lat1.val p.lat2.val = some (F_spec_l17Ok p) := by
  have r1 := p.lat0.bd
  have r2 := p.lon0.bd
  simp only [spec_l17Ok.f, spec_l11Ok.f, spec_l00In.f, spec_l17Standard.f, F_spec_l17Ok, t_spec_l17Ok, F_spec_l11Ok, t_spec_l11Ok, F_spec_l17Standard, t_spec_l17Standard, Ev.Tr.get, in_eq]
  by_cases h1 : -900000000 ≤ p.lat0.val ∧ p.lat0.val ≤ 900000000
  case neg =>
    have : (p.lat0.val ≥ -900000000 ∧ ¬ p.lat0.val ≤ 900000000) ∨ ¬ p.lat0.val ≥ -900000000 := by omega
    rcases this with ⟨a, b⟩ | a <;> simp [h1, a, spec_l17Ok.j0] <;> simp [b, spec_l17Ok.j0]
  by_cases h2 : -1799999999 ≤ p.lon0.val ∧ p.lon0.val ≤ 1800000000
  case neg =>
    have : (p.lon0.val ≥ -1799999999 ∧ ¬ p.lon0.val ≤ 1800000000) ∨ ¬ p.lon0.val ≥ -1799999999 := by omega
    rcases this with ⟨a, b⟩ | a <;> simp [h1, h2, a, spec_l17Ok.j0] <;> simp [b, spec_l17Ok.j0]
  by_cases h3 : -890000000 ≤ p.lat1.val ∧ p.lat1.val ≤ 890000000
  case neg =>
    have : (p.lat1.val ≥ -890000000 ∧ ¬ p.lat1.val ≤ 890000000) ∨ ¬ p.lat1.val ≥ -890000000 := by omega
    rcases this with ⟨a, b⟩ | a <;> simp [h1, h2, h3, a, spec_l17Ok.j0] <;> simp [b, spec_l17Ok.j0]
  by_cases h4 : -890000000 ≤ p.lat2.val ∧ p.lat2.val ≤ 890000000
  case neg =>
    have : (p.lat2.val ≥ -890000000 ∧ ¬ p.lat2.val ≤ 890000000) ∨ ¬ p.lat2.val ≥ -890000000 := by omega
    rcases this with ⟨a, b⟩ | a <;> simp [h1, h2, h3, h4, a, spec_l17Ok.j0] <;> simp [b, spec_l17Ok.j0]
  have hm : (Ev.Rng.w .i64 (p.lat1.val + p.lat2.val)).val = p.lat1.val + p.lat2.val := wi (by omega) (by omega)
  have hw : wrap64 (p.lat1.val + p.lat2.val) = p.lat1.val + p.lat2.val := wid (by omega) (by omega)
  rw [hm]
  simp only [hw, h1.1, h1.2, h2.1, h2.2, h3.1, h3.2, h4.1, h4.2, ge_iff_le, and_self, decide_true, if_true, Option.bind_some, Bool.not_true, cond_false, spec_l17Ok.j0, spec_l17Ok.j1, spec_l17Ok.j2, spec_l17Ok.j3]
  by_cases hk : 1 ≤ p.kind.val ∧ p.kind.val ≤ 16
  case neg =>
    have e : ∀ n : Int, 1 ≤ n → n ≤ 16 → (p.kind.val == n) = false := fun n a b => by simp; omega
    have e2 : ∀ n : Int, 1 ≤ n → n ≤ 16 → ¬ p.kind.val = n := fun n a b => by omega
    simp [e, e2]
  have : p.kind.val = 1 ∨ p.kind.val = 2 ∨ p.kind.val = 3 ∨ p.kind.val = 4 ∨ p.kind.val = 5 ∨ p.kind.val = 6 ∨ p.kind.val = 7 ∨ p.kind.val = 8 ∨ p.kind.val = 9 ∨ p.kind.val = 10 ∨ p.kind.val = 11 ∨
    p.kind.val = 12 ∨ p.kind.val = 13 ∨ p.kind.val = 14 ∨ p.kind.val = 15 ∨ p.kind.val = 16 := by omega
  rcases this with h | h | h | h | h | h | h | h | h | h | h | h | h | h | h | h <;> simp [h, Bool.cond_eq_ite] <;> (repeat' split) <;> simp_all <;> omega
theorem ok_f {k : Nat} (hk : 6 ≤ k) (p : Proj) : spec_l17Ok.f k p.kind.val p.lat0.val p.lon0.val p.lat1.val p.lat2.val = some (F_spec_l17Ok p) :=
  mono_to (f := fun k => spec_l17Ok.f k p.kind.val p.lat0.val p.lon0.val p.lat1.val p.lat2.val) (fun k => spec_l17Ok.mono _ _ _ _ _ k) hk (ok0 p)

/-! ### the whole -/
theorem rp_step {k : Nat} (hk : 60 ≤ k) (ws : List ByteArray) (hl : ws.length = 5) (acc : List Int) (ha : acc.length ≤ 10) (i : Nat) (hi : i < 5) :
    spec_ReadProjection.l0 (k + 1) ws acc (i : Int) = if rdB (ws.getD i ByteArray.empty) = true then spec_ReadProjection.l0 k ws (acc ++ [rdV (ws.getD i ByteArray.empty)]) ((i + 1 : Nat) : Int) else some (0, 0, 0, 0, 0, false) := by
  have w1 : wrap64 ((i : Int) + 1) = ((i + 1 : Nat) : Int) := by rw [wid (by omega) (by omega)]; omega
  have e : rdOf ByteArray.empty ws (i : Int) = ws.getD i ByteArray.empty := by simp [rdOf]
  rw [spec_ReadProjection.l0, if_pos (by omega), if_pos (by omega), if_pos (by omega), e, number_f hk]
  simp only [Option.bind_some]
  rw [w1, if_pos (show acc.length < 17592186044416 by omega)]
theorem rp_end {k : Nat} (hk : 60 ≤ k) (s : ByteArray) (hl : (wds s).length = 5) :
    spec_ReadProjection.l0 (k + 1) (wds s) [(pjW s).lat0.val, (pjW s).lon0.val, (pjW s).lat1.val, (pjW s).lat2.val] ((5 : Nat) : Int) = if F_spec_l17Ok (pjW s) = true then some ((pjW s).kind.val, (pjW s).lat0.val, (pjW s).lon0.val, (pjW s).lat1.val, (pjW s).lat2.val, true) else some (0, 0, 0, 0, 0, false) := by
  have e : rdOf ByteArray.empty (wds s) 0 = Ev.wd s 0 := rfl
  rw [spec_ReadProjection.l0, if_neg (by omega), if_pos (by omega), e, named_f (by omega)]
  simp only [Option.bind_some, List.length_cons, List.length_nil]
  rw [if_pos (by decide), if_pos (by decide), if_pos (by decide), if_pos (by decide)]
  have h := ok_f (k := k) (by omega) (pjW s)
  rw [show spec_l17Ok.f k (Ev.kindOf (Ev.wd s 0)).val (rd [(pjW s).lat0.val, (pjW s).lon0.val, (pjW s).lat1.val, (pjW s).lat2.val] 0) (rd [(pjW s).lat0.val, (pjW s).lon0.val, (pjW s).lat1.val, (pjW s).lat2.val] 1) (rd [(pjW s).lat0.val, (pjW s).lon0.val, (pjW s).lat1.val, (pjW s).lat2.val] 2) (rd [(pjW s).lat0.val, (pjW s).lon0.val, (pjW s).lat1.val, (pjW s).lat2.val] 3) = some (F_spec_l17Ok (pjW s)) from h]
  rfl
/-- Whether the specification reads a projection. -/
noncomputable def okS (s : ByteArray) : Bool := decide ((wds s).length = 5) && (rdB (Ev.wd s 1) && (rdB (Ev.wd s 2) && (rdB (Ev.wd s 3) && (rdB (Ev.wd s 4) && F_spec_l17Ok (pjW s)))))
theorem rp_f {s : ByteArray} (hs : s.size ≤ 2000000) : spec_ReadProjection.f (s.size + 100) s = some (if okS s = true then ((pjW s).kind.val, (pjW s).lat0.val, (pjW s).lon0.val, (pjW s).lat1.val, (pjW s).lat2.val, true) else (0, 0, 0, 0, 0, false)) := by
  unfold spec_ReadProjection.f
  rw [mono_to (f := fun k => spec_l01Split.f k s 32) (fun k => spec_l01Split.mono s 32 k) (show s.size + 1 ≤ s.size + 100 by omega) (split_f hs)]
  simp only [Option.bind_some]
  by_cases hl : (wds s).length = 5
  · rw [if_pos (by omega)]
    obtain ⟨k, hk⟩ : ∃ k, s.size + 100 = k + 1 + 1 + 1 + 1 + 1 := ⟨s.size + 95, by omega⟩
    rw [hk, show (1 : Int) = ((1 : Nat) : Int) from rfl, rp_step (by omega) _ hl _ (by simp) 1 (by decide)]
    unfold okS
    have d5 : decide ((wds s).length = 5) = true := by simpa using hl
    rw [d5]
    change (if rdB (Ev.wd s 1) = true then _ else _) = _
    cases c1 : rdB (Ev.wd s 1)
    · simp
    rw [if_pos rfl, rp_step (by omega) _ hl _ (by simp) 2 (by decide)]
    change (if rdB (Ev.wd s 2) = true then _ else _) = _
    cases c2 : rdB (Ev.wd s 2)
    · simp
    rw [if_pos rfl, rp_step (by omega) _ hl _ (by simp) 3 (by decide)]
    change (if rdB (Ev.wd s 3) = true then _ else _) = _
    cases c3 : rdB (Ev.wd s 3)
    · simp
    rw [if_pos rfl, rp_step (by omega) _ hl _ (by simp) 4 (by decide)]
    change (if rdB (Ev.wd s 4) = true then _ else _) = _
    cases c4 : rdB (Ev.wd s 4)
    · simp
    rw [if_pos rfl]
    have v1 : rdV (Ev.wd s 1) = (pjW s).lat0.val := (rdI_val _).symm
    have v2 : rdV (Ev.wd s 2) = (pjW s).lon0.val := (rdI_val _).symm
    have v3 : rdV (Ev.wd s 3) = (pjW s).lat1.val := (rdI_val _).symm
    have v4 : rdV (Ev.wd s 4) = (pjW s).lat2.val := (rdI_val _).symm
    have he := rp_end (k := k) (by omega) s hl
    rw [← v1, ← v2, ← v3, ← v4] at he ⊢
    refine Eq.trans he ?_
    cases F_spec_l17Ok (pjW s) <;> simp
  · rw [if_neg (by omega)]
    have : okS s = false := by unfold okS; simp [hl]
    rw [this]; simp
end Go.Proofs.YtegdoadciojpaaaDoor.Rq
