/-
  The walk of turnsIn: the loop, and what it answers.
-/
import Derived.Test.YtcfflflcbacapaaGreatPD
namespace Go.Proofs.YtcfflflcbacapaaGreat.Ev
open Go Go.RowKit
set_option maxRecDepth 100000
set_option linter.unusedSimpArgs false
set_option linter.unusedVariables false

theorem turn_rounds {x : Iv} {wc : World} {r0 : Nat} {ty : TypeId} (hk1 : (k1 x).val ≤ 4000) : ∀ (n : Nat) (k : I64) (l : List I64) (v : Value) (a : Act) (w : World) (Q : Exit → Act → World → Prop), TInv x wc r0 ty k l v a w →
    1 ≤ n → (k1 x).val - k.val + 1 < n → l.length + n ≤ 3000 → -5000 ≤ k.val → (∀ k' v' a' w', TInv x wc r0 ty k' (l ++ keepF x n k) v' a' w' → Q (.exit 0) a' w') → Code.rounds Tryz.prog KTL Q n a w := by
  intro n
  induction n with
  | zero => intro k l v a w Q _ h1; omega
  | succ n ih =>
    intro k l v a w Q h _ hn hl hlow hq
    rw [rounds_succ, KTL_eq]
    obtain ⟨LV, ρ, hR, h0, hL⟩ := h.enter
    have pA := p_A x k LV
    by_cases hk : k.val ≤ (k1 x).val
    · rw [show decide (k.val ≤ (k1 x).val) = true by simpa using hk, cond_true] at pA
      have ev : (Rng.w .i64 (k.val + 1)).val = k.val + 1 := wi (by omega) (by omega)
      refine wp_seq (piece pA hR fun ρ1 a1 w1 e1 r1 => ?_)
      have i1 := h.leave (hL ρ1 · e1) (e1 0 r0 h0) r1 rfl rfl rfl
      obtain ⟨LV2, ρ2, hR2, h02, hL2⟩ := i1.enter
      have last : ∀ (l' : List I64) (v' : Value) (a' : Act) (w' : World), TInv x wc r0 ty k l' v' a' w' → l'.length ≤ l.length + 1 → l' ++ keepF x n (.w .i64 (k.val + 1)) = l ++ keepF x (n + 1) k → KTC.wp Tryz.prog (Exit.then (Code.rounds Tryz.prog KTL Q n) Q) a' w' := by
        intro l' v' a' w' i hlen heq
        obtain ⟨LV3, ρ3, hR3, h03, hL3⟩ := i.enter
        refine piece (p_C x k LV3) hR3 fun ρ4 a4 w4 e4 r4 => ?_
        have i4 := i.leave (hL3 ρ4 · e4) (e4 0 r0 h03) r4 rfl rfl rfl
        exact ih _ _ _ _ _ Q i4 (by omega) (by rw [ev]; omega) (by omega) (by rw [ev]; omega) (fun k' v'' a'' w'' hh => hq k' v'' a'' w'' (by rw [← heq]; exact hh))
      refine wp_seq (wp_block (wp_seq (piece (p_B x k LV2) hR2 fun ρ3 a2 w2 e2 r2 => ?_)))
      have i2 := i1.leave (hL2 ρ3 · e2) (e2 0 r0 h02) r2 rfl rfl rfl
      obtain ⟨y, y1, y2⟩ := r2.tm 20 _ rfl
      cases y2
      refine wp_cond (eval_tmp y1) ?_
      cases hov : F_impl_OverlapI (F_impl_TurnI k) x
      · exact wp_skip (last l v a2 w2 i2 (by omega) (by simp only [keepF, hk, hov, decide_true, cond_true, cond_false]))
      · refine wp_6 i2 (by omega) fun v' a' w' i3 => ?_
        exact last (l ++ [k]) v' a' w' i3 (by simp) (by simp only [keepF, hk, hov, decide_true, cond_true, List.append_assoc, List.singleton_append])
    · rw [show decide (k.val ≤ (k1 x).val) = false by simpa using hk, cond_false] at pA
      refine wp_seq (piece pA hR fun ρ1 a1 w1 e1 r1 => ?_)
      have i1 := h.leave (hL ρ1 · e1) (e1 0 r0 h0) r1 rfl rfl rfl
      refine hq k v a1 w1 ?_
      simp only [keepF, hk, decide_false, cond_false, List.append_nil]
      exact i1

theorem k_bd (x : Iv) : -201 ≤ (k0 x).val ∧ (k1 x).val ≤ 201 ∧ (k0 x).val ≤ 201 := by
  have h1 := quarter_bd x.lo
  have h2 := quarter_bd x.hi
  rw [← quarter_eq] at h1 h2
  unfold k0 k1
  rw [wi (by omega) (by omega), wi (by omega) (by omega)]
  omega

/-- What turnsIn answers. -/
theorem turns_does (x : Iv) {ρ : Nat → Option Nat} {xs : List Value} {w : World} (hv : VRs ρ [enc x] xs) :
    Does Tryz.prog 246 xs.toArray w fun v w' => OwnI w.heap.size 2 w' v (keepF x 1000 (k0 x)) ∧ Below w.heap.size w w' := by
  have hb := k_bd x
  refine does_of_wp BT (vs := [enc x]) (show 1 ≤ BT.fn.ntmps by decide +kernel) hv rfl fun a hR => ?_
  rw [BT_eq]
  refine wp_seq (piece (p_0 x) hR fun ρ1 a1 w1 e1 r1 => ?_)
  refine wp_seq (piece (p_1 x) r1 fun ρ2 a2 w2 e2 r2 => ?_)
  refine wp_seq (wp_seq (piece (p_2 x) r2 fun ρ3 a3 w3 e3 r3 => ?_))
  obtain ⟨r0, ys, ty, h0, hrow, hys⟩ := r3.mr.blk 0 _ rfl
  obtain ⟨y1, q1, u1⟩ := r3.tm 1 _ rfl
  obtain ⟨y4, q4, u4⟩ := r3.tm 4 _ rfl
  obtain ⟨y3, q3, u3⟩ := r3.tm 3 _ rfl
  have hr0b := r3.mr.own 0 r0 (Nat.zero_le _) h0
  have i0 : TInv x w r0 ty (k0 x) [] (.slice none 0 0) a3 w3 := by
    refine ⟨r3.sz, r3.df, ?_, ?_, ?_, ?_, .inl ⟨rfl, rfl⟩, by simp [Value.ownBlock], r3.mr.bel, hr0b⟩
    · cases u1; rename_i r hr; rw [h0] at hr; cases hr; exact q1
    · cases u4; exact q4
    · cases u3; exact q3
    · cases hys with
      | cons h1 ht => cases ht with
        | cons h2 ht => cases ht; cases h1; cases h2; exact hrow
  refine wp_block (wp_loop_rounds 1000 (turn_rounds (by omega) 1000 _ _ _ _ _ _ i0 (by decide) (by omega) (by simp) (by omega) fun k' v' a' w' i => ?_))
  simp only [List.nil_append] at i
  obtain ⟨LV, ρ4, hR4, h04, hL4⟩ := i.enter
  show KT7.wp _ _ _ _
  refine piece (p_7 x k' LV) hR4 fun ρ5 a5 w5 e5 r5 => ?_
  have hres : resv (P := Tryz.prog) [] ⟨[(2, LV)], 26, ⟨pair x, 2, 2⟩⟩ BT.fn.results.toList = some [LV] := by
    have : BT.fn.results.toList = [.tmp 2] := by kernel_rfl
    rw [this]; rfl
  obtain ⟨z, z1, z2⟩ := results_run (P := Tryz.prog) r5 hres
  have := hL4 ρ5 z e5 z2
  subst this
  refine ⟨r5.df, z, z1, z, rfl, ?_, ?_⟩
  · exact i.own.below r5.mr.bel
  · exact i.bel.trans (r5.mr.bel.mono i.bel.size)
end Go.Proofs.YtcfflflcbacapaaGreat.Ev
