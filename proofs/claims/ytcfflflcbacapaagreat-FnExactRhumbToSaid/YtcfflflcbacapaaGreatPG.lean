/-
  The walk of circleHull: the loop, and its entry.
-/
import Derived.Test.YtcfflflcbacapaaGreatPF
namespace Go.Proofs.YtcfflflcbacapaaGreat.Ev
open Go Go.RowKit
set_option maxRecDepth 100000
set_option linter.unusedSimpArgs false
set_option linter.unusedVariables false

noncomputable def hullF (t : I64) : List I64 → Iv → Iv
  | [], o => o
  | k :: l, o => hullF t l (bif (turn4 t k).val == 1 then F_impl_HullI o (F_impl_Integer ⟨1, rfl⟩) else bif (turn4 t k).val == 3 then F_impl_HullI o (F_impl_Integer ⟨-1, rfl⟩) else o)

theorem vrs_i64 {ρ : Nat → Option Nat} : ∀ {l : List I64} {xs : List Value}, VRs ρ (l.map V.i64) xs → xs = l.map iv64
  | [], xs, h => by cases h; rfl
  | k :: l, xs, h => by
    cases h with
    | cons h t => cases h; rw [vrs_i64 t]; rfl
theorem vrs_mk {ρ : Nat → Option Nat} : ∀ (l : List I64), VRs ρ (l.map V.i64) (l.map iv64)
  | [] => .nil
  | k :: l => .cons (.i64 k) (vrs_mk l)
theorem vrs_cells {ρ : Nat → Option Nat} {x : Iv} {xs : List Value} (h : VRs ρ (cellsI x) xs) : xs = [iv64 x.lo, iv64 x.hi] := by
  cases h with
  | cons h1 t => cases t with
    | cons h2 t => cases t; cases h1; cases h2; rfl

/-- How things stand in circleHull's loop. -/
structure HInv (t : I64) (wc : World) (L : List I64) (v : Value) (n i : I64) (o : Iv) (ex : List (Nat × V)) (bl : List Nat) (tl : List (Nat × List V)) (LV : V) (ρ : Nat → Option Nat) (a : Act) (w : World) : Prop where
  rel : Rel wc ρ (sH t o n i tl LV ex) a w
  fr : Fr bl tl LV
  hv : a.tmps[22]? = some v
  ls : (v = .slice none 0 0 ∧ L = [] ∧ tl = []) ∨ ∃ g cap m, v = .slice (some ⟨g, 0, none⟩) L.length cap ∧ ρ 3 = some g ∧ tl = [(3, (L ++ m).map V.i64)]

section
variable {t : I64} {wc : World} {L : List I64} {v : Value} {n i : I64} {o : Iv} {ex : List (Nat × V)} {bl : List Nat} {tl : List (Nat × List V)} {LV : V} {ρ : Nat → Option Nat} {a : Act} {w : World}

theorem HInv.go (h : HInv t wc L v n i o ex bl tl LV ρ a w) (hLV : (v = .slice none 0 0 ∧ LV = .nils) ∨ ∃ g cap, v = .slice (some ⟨g, 0, none⟩) L.length cap ∧ LV = .slc 3 0 L.length cap ∧ ρ 3 = some g) {ρ' : Nat → Option Nat} (e : Ext ρ ρ') {o' : Iv} {i' : I64} {ex' : List (Nat × V)} {a' : Act} {w' : World}
    (hr : Rel wc ρ' (sH t o' n i' tl LV ex') a' w') (h22 : lk ex' 22 = none) (hlk : lk (sH t o' n i' tl LV ex').tm 22 = some LV) : HInv t wc L v n i' o' ex' bl tl LV ρ' a' w' := by
  obtain ⟨y, y1, y2⟩ := hr.tm 22 _ hlk
  refine ⟨hr, h.fr, ?_, ?_⟩
  · rcases hLV with ⟨rfl, rfl⟩ | ⟨g, cap, rfl, rfl, hg⟩
    · cases y2; exact y1
    · cases y2
      rename_i r hr'
      rw [e 3 g hg] at hr'; cases hr'; exact y1
  · rcases h.ls with h1 | ⟨g, cap, m, h1, h2, h3⟩
    · exact .inl h1
    · exact .inr ⟨g, cap, m, h1, e 3 g h2, h3⟩
end

theorem hull_rounds {t : I64} {wc : World} {L : List I64} {v : Value} {n : I64} {bl : List Nat} {tl : List (Nat × List V)} {LV : V} (hn : n.val = L.length) (hL : L.length ≤ 4000) :
    ∀ (m : Nat) (i : I64) (o : Iv) (ρ : Nat → Option Nat) (a : Act) (w : World) (Q : Exit → Act → World → Prop), HInv t wc L v n i o [] bl tl LV ρ a w →
    ((v = .slice none 0 0 ∧ LV = .nils) ∨ ∃ g cap, v = .slice (some ⟨g, 0, none⟩) L.length cap ∧ LV = .slc 3 0 L.length cap ∧ ρ 3 = some g) →
    0 ≤ i.val → i.val + m = L.length + 1 → 1 ≤ m → (∀ i' ρ' a' w', HInv t wc L v n i' (hullF t (L.drop i.val.toNat) o) [] bl tl LV ρ' a' w' → Q (.exit 0) a' w') → Code.rounds Tryz.prog HL Q m a w := by
  intro m
  induction m with
  | zero => intro i o ρ a w Q _ _ _ _ h; omega
  | succ m ih =>
    intro i o ρ a w Q h hLV hi hm _ hq
    rw [rounds_succ, HL_eq]
    refine wp_seq (piece (q_5 h.fr) h.rel fun ρ1 a1 w1 e1 r1' => ?_)
    have hLV1 : (v = .slice none 0 0 ∧ LV = .nils) ∨ ∃ g cap, v = .slice (some ⟨g, 0, none⟩) L.length cap ∧ LV = .slc 3 0 L.length cap ∧ ρ1 3 = some g := by
      rcases hLV with h | ⟨g, cap, h1, h2, h3⟩
      · exact .inl h
      · exact .inr ⟨g, cap, h1, h2, e1 3 g h3⟩
    have i1 := h.go hLV e1 (ex' := [(25, .bool (decide (i.val < n.val)))]) r1' rfl rfl
    obtain ⟨y, y1, y2⟩ := r1'.tm 25 _ rfl
    cases y2
    refine wp_seq (wp_cond (eval_tmp y1) ?_)
    by_cases hlt : i.val < n.val
    · rw [show decide (i.val < n.val) = true by simpa using hlt, if_pos rfl]
      refine wp_skip ?_
      show ((Code.block 1 (H6.seq H7)).seq H12).wp _ _ _ _
      refine wp_seq (wp_block (wp_seq ?_))
      rcases i1.ls with ⟨rfl, rfl, _⟩ | ⟨g, cap, mm, rfl, hg, htl⟩
      · simp at hn; omega
      have hil : i.val.toNat < L.length := by omega
      obtain ⟨kk, hkk⟩ : ∃ kk, L[i.val.toNat]? = some kk := ⟨L[i.val.toNat], by simp [hil]⟩
      obtain ⟨g', ys, ty, hg', hrow, hys⟩ := r1'.mr.blk 3 ((L ++ mm).map V.i64) (by rw [htl]; rfl)
      rw [hg] at hg'; cases hg'
      have hyse := vrs_i64 hys
      subst hyse
      obtain ⟨y24, z1, z2⟩ := r1'.tm 24 _ rfl
      cases z2
      have hsz : a1.tmps.size = 44 := r1'.sz
      rw [H6_eq]
      refine wp_region_lit ?_
      obtain ⟨ti, tz, hti, _, hts, _, _⟩ := ty_i64
      have hcs : Tryz.prog.cellsOf 2 = 1 := by simp [Program.cellsOf, hti, hts]
      refine Go.Great.wpList_runTo oB_0.1 (some 26) oB_0.2.2 (.pointer (some ⟨g, 0 + i.val.toNat * 1, none⟩)) w1 ?_ ?_
      · have hsr := run_cells (P := Tryz.prog) (t := 2) hcs (by decide) w1
        have hrun : (Instr.indexAt 110 (.slice (some ⟨g, 0, none⟩) L.length cap) (.int .i64 i.val)).run Tryz.prog w1 = .ok (.pointer (some ⟨g, 0 + i.val.toNat * 1, none⟩)) w1 := by
          simp [Instr.indexAt, asIntOf, run_underlying ty_list, hi, show i.val < (L.length : Int) by omega, hsr, addr_add]
        simp only [execOp, oB_0.2.1, eval_tmp i1.hv, eval_tmp z1, Sem.run_bind, hrun, Result.andThen_ok, Sem.run_pure]
      have f1 : (a1.put (some 26) (.pointer (some ⟨g, 0 + i.val.toNat * 1, none⟩))).tmps[26]? = some (.pointer (some ⟨g, 0 + i.val.toNat * 1, none⟩)) := by rw [put_get (by omega), if_pos rfl]
      have g1 : (a1.put (some 26) (.pointer (some ⟨g, 0 + i.val.toNat * 1, none⟩))).tmps.size = 44 := by rw [put_size, hsz]
      have hcell : w1.cell? ⟨g, 0 + i.val.toNat * 1, none⟩ = some (iv64 kk) := by
        rw [cell_of_row w1 g _ _ ty _ hrow]
        simp only [Nat.zero_add, Nat.mul_one, List.getElem?_toArray, List.getElem?_map]
        rw [List.getElem?_append_left hil, hkk]; rfl
      refine Go.Great.wpList_runTo oB_1.1 (some 27) oB_1.2.2 (iv64 kk) w1 ?_ ?_
      · have hagg := Y2.run_agg (b := false) (by kernel_rfl) w1
        have hag : (isAgg 2).run Tryz.prog w1 = .ok false w1 := hagg
        simp only [execOp, oB_1.2.1, eval_tmp f1, Instr.loadAt, Instr.sureAddr, loadVar, hag, Sem.run_bind, Sem.run_pure, Result.andThen_ok, Bool.false_eq_true, if_false, run_load, hcell]
      generalize hA2 : a1.put (some 26) (.pointer (some ⟨g, 0 + i.val.toNat * 1, none⟩)) = a2 at *
      have f2 : (a2.put (some 27) (iv64 kk)).tmps[27]? = some (iv64 kk) := by rw [put_get (by omega), if_pos rfl]
      have g2 : (a2.put (some 27) (iv64 kk)).tmps.size = 44 := by rw [put_size, g1]
      refine Go.Great.wpList_runTo oB_2.1 (some 7) oB_2.2.2 (iv64 kk) w1 (by simp only [execOp, oB_2.2.1, Sem.run_pure, eval_tmp f2]) ?_
      refine wpList_nil ?_
      show H7.wp _ _ _ _
      have r2 : Rel wc ρ1 (sH t o n i tl LV [(7, .i64 kk)]) ((a2.put (some 27) (iv64 kk)).put (some 7) (iv64 kk)) w1 := by
        refine ⟨fun t' u hu => ?_, by rw [put_size, g2]; rfl, ?_, r1'.mr⟩
        · simp only [sH, List.cons_append, List.nil_append, lk_cons] at hu
          by_cases h7 : 7 = t'
          · subst h7
            simp at hu; subst hu
            exact ⟨iv64 kk, by rw [put_get (by omega), if_pos rfl], .i64 _⟩
          · rw [if_neg h7] at hu
            have hu' : lk (sH t o n i tl LV [(25, .bool (decide (i.val < n.val)))]).tm t' = some u ∧ t' ≠ 26 ∧ t' ≠ 27 := by
              simp only [sH, List.cons_append, List.nil_append, lk_cons]
              by_cases h25 : 25 = t'
              · subst h25; simp [lk] at hu
              · rw [if_neg h25]
                refine ⟨hu, ?_, ?_⟩
                · rintro rfl; simp [lk] at hu
                · rintro rfl; simp [lk] at hu
            obtain ⟨y, y1, y2⟩ := r1'.tm t' u hu'.1
            refine ⟨y, ?_, y2⟩
            rw [put_get (by omega), if_neg (fun e => h7 e.symm), put_get (by omega), if_neg hu'.2.2, ← hA2, put_get (by omega), if_neg hu'.2.1]
            exact y1
        · rw [put_df, put_df, ← hA2, put_df]; exact r1'.df
      have i2 : HInv t wc L (.slice (some ⟨g, 0, none⟩) L.length cap) n i o [(7, .i64 kk)] bl tl LV ρ1 ((a2.put (some 27) (iv64 kk)).put (some 7) (iv64 kk)) w1 := by
        refine ⟨r2, i1.fr, ?_, i1.ls⟩
        rw [put_get (by omega), if_neg (by decide), put_get (by omega), if_neg (by decide), ← hA2, put_get (by omega), if_neg (by decide)]
        exact i1.hv
      have hdrop : L.drop i.val.toNat = kk :: L.drop (i.val.toNat + 1) := by
        have hkk' : L[i.val.toNat] = kk := by rw [List.getElem?_eq_getElem hil] at hkk; simpa using hkk
        rw [List.drop_eq_getElem_cons hil, hkk']
      have ev : (Rng.w .i64 (i.val + 1)).val = i.val + 1 := wi (by omega) (by omega)
      have last : ∀ (o' : Iv), o' = (bif (turn4 t kk).val == 1 then F_impl_HullI o (F_impl_Integer ⟨1, rfl⟩) else bif (turn4 t kk).val == 3 then F_impl_HullI o (F_impl_Integer ⟨-1, rfl⟩) else o) →
          ∀ (ρ3 : Nat → Option Nat) (a3 : Act) (w3 : World), Ext ρ1 ρ3 → Rel wc ρ3 (sH t o' n i tl LV []) a3 w3 → H12.wp Tryz.prog (Exit.then (Code.rounds Tryz.prog HL Q m) Q) a3 w3 := by
        intro o' ho' ρ3 a3 w3 e3 r3
        have i3 := i2.go hLV1 e3 (ex' := []) r3 rfl rfl
        have hLV3 : (Value.slice (some ⟨g, 0, none⟩) L.length cap = .slice none 0 0 ∧ LV = .nils) ∨ ∃ g' cap', Value.slice (some ⟨g, 0, none⟩) L.length cap = .slice (some ⟨g', 0, none⟩) L.length cap' ∧ LV = .slc 3 0 L.length cap' ∧ ρ3 3 = some g' := by
          rcases hLV1 with h | ⟨g', cap', h1, h2, h3⟩
          · exact .inl h
          · exact .inr ⟨g', cap', h1, h2, e3 3 g' h3⟩
        refine piece (q_12 i3.fr) i3.rel fun ρ4 a4 w4 e4 r4 => ?_
        have i4 := i3.go hLV3 e4 (ex' := []) r4 rfl rfl
        refine ih (.w .i64 (i.val + 1)) o' ρ4 a4 w4 Q i4 ?_ (by rw [ev]; omega) (by rw [ev]; omega) (by omega) fun i' ρ' a' w' hh => hq i' ρ' a' w' ?_
        · rcases hLV3 with h | ⟨g', cap', h1, h2, h3⟩
          · exact .inl h
          · exact .inr ⟨g', cap', h1, h2, e4 3 g' h3⟩
        · rw [hdrop]
          simp only [hullF]
          rw [← ho']
          rw [ev, show (i.val + 1).toNat = i.val.toNat + 1 by omega] at hh
          exact hh
      have q7 := q_7 (t := t) (o := o) (n := n) (i := i) (k := kk) i2.fr
      cases hc1 : ((turn4 t kk).val == 1)
      · rw [hc1, cond_false] at q7
        cases hc3 : ((turn4 t kk).val == 3)
        · rw [hc3, cond_false] at q7
          exact piece q7 i2.rel fun ρ3 a3 w3 e3 r3 => last _ (by rw [hc1, hc3]; rfl) ρ3 a3 w3 e3 r3
        · rw [hc3, cond_true] at q7
          exact piece q7 i2.rel fun ρ3 a3 w3 e3 r3 => last _ (by rw [hc1, hc3]; rfl) ρ3 a3 w3 e3 r3
      · rw [hc1, cond_true] at q7
        exact piece q7 i2.rel fun ρ3 a3 w3 e3 r3 => last _ (by rw [hc1]; rfl) ρ3 a3 w3 e3 r3
    · rw [show decide (i.val < n.val) = false by simpa using hlt, if_neg (by decide)]
      refine wp_exit ?_
      have hd : L.drop i.val.toNat = [] := List.drop_eq_nil_of_le (by omega)
      rw [hd] at hq
      refine hq i ρ1 a1 w1 ⟨?_, i1.fr, i1.hv, i1.ls⟩
      exact ⟨fun t' u hu => r1'.tm t' u (by
        simp only [sH, List.cons_append, List.nil_append, lk_cons] at hu ⊢
        by_cases h25 : 25 = t'
        · subst h25; simp [lk] at hu
        · rw [if_neg h25]; exact hu), r1'.sz, r1'.df, r1'.mr⟩
end Go.Proofs.YtcfflflcbacapaaGreat.Ev
