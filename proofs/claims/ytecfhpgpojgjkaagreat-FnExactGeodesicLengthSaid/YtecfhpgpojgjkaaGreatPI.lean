/-
  The walk of the program's tangent: it ranges over the list that turnsIn answers.
-/
import Derived.Test.YtecfhpgpojgjkaaGreatPT
import Derived.Test.YtecfhpgpojgjkaaGreatW8
namespace Go.Proofs.YtecfhpgpojgjkaaGreat.Ev
open Go Go.RowKit
set_option maxRecDepth 100000
set_option linter.unusedSimpArgs false
set_option linter.unusedVariables false

noncomputable def TbN : Tb Tryz.prog := { T := [Y2, Y27], mix := mix, Es := [E_impl_areAngles, E_impl_Whole, E_impl_SinAt, E_impl_CosAt, E_impl_DivI, E_impl_HullI], N := 1 }
noncomputable def BN : Bod Tryz.prog := ⟨85, Tryz.f85, Tryz.f85.body.getD .skip, Tryz.func85, by kernel_rfl, by kernel_rfl, Loops.no _ _⟩
noncomputable def N0 : Code := sL BN.code
noncomputable def N1 : Code := sL (sR BN.code)
noncomputable def N3 : Code := sL (sL (sR (sR BN.code)))
noncomputable def NL : Code := unl (unb (sR (sL (sR (sR BN.code)))))
noncomputable def N9 : Code := sR (sR (sR BN.code))
theorem BN_eq : BN.code = N0.seq (N1.seq ((N3.seq (.block 0 (.loop NL))).seq N9)) := by kernel_rfl
noncomputable def N4 : Code := sL NL
noncomputable def N5 : Code := sL (unb (sL (sR (sR NL))))
noncomputable def N6 : Code := sR (unb (sL (sR (sR NL))))
noncomputable def N8 : Code := sR (sR (sR NL))
theorem NL_eq : NL = N4.seq ((Code.cond (.tmp 13) .skip (.exit 0)).seq ((Code.block 1 (N5.seq N6)).seq N8)) := by kernel_rfl
noncomputable def nA (i : Nat) : Oper := (opsL N3).getD i default
theorem N3_eq : N3 = .region 3 [nA 0, nA 1, nA 2, nA 3].toArray false := by kernel_rfl
noncomputable def nB (i : Nat) : Oper := (opsL N5).getD i default
theorem N5_eq : N5 = .region 5 [nB 0, nB 1, nB 2].toArray false := by kernel_rfl
theorem nA_0 : (nA 0).guard = none ∧ (nA 0).dst = some 9 := ⟨by kernel_rfl, by kernel_rfl⟩
theorem nA_1 : (nA 1).guard = none ∧ (nA 1).op = .call { callee := .value (.func 211), args := #[.tmp 9], argTypes := #[27] } ∧ (nA 1).dst = some 10 := ⟨by kernel_rfl, by kernel_rfl, by kernel_rfl⟩
theorem nA_2 : (nA 2).guard = none ∧ (nA 2).op = .call { callee := .builtin .len, args := #[.tmp 10], argTypes := #[117] } ∧ (nA 2).dst = some 11 := ⟨by kernel_rfl, by kernel_rfl, by kernel_rfl⟩
theorem nA_3 : (nA 3).guard = none ∧ (nA 3).op = .move (.const (.int .i64 0)) ∧ (nA 3).dst = some 12 := ⟨by kernel_rfl, by kernel_rfl, by kernel_rfl⟩
theorem nB_0 : (nB 0).guard = none ∧ (nB 0).op = .indexAddr 117 (.tmp 10) (.tmp 12) ∧ (nB 0).dst = some 14 := ⟨by kernel_rfl, by kernel_rfl, by kernel_rfl⟩
theorem nB_1 : (nB 1).guard = none ∧ (nB 1).op = .load 2 (.tmp 14) ∧ (nB 1).dst = some 15 := ⟨by kernel_rfl, by kernel_rfl, by kernel_rfl⟩
theorem nB_2 : (nB 2).guard = none ∧ (nB 2).op = .assign (.tmp 15) ∧ (nB 2).dst = some 4 := ⟨by kernel_rfl, by kernel_rfl, by kernel_rfl⟩

noncomputable def endN (x : Iv) : Iv := F_impl_HullI (F_impl_DivI (F_impl_SinAt x.lo) (F_impl_CosAt x.lo)) (F_impl_DivI (F_impl_SinAt x.hi) (F_impl_CosAt x.hi))
noncomputable def odd1 (k : I64) : Bool := (Rng.w .i64 (bitop .and .i64 k.val 1)).val == 1
def s1N (x z : Iv) : St := ⟨[(1, .ptr 0 0), (2, .ptr 1 0)], 36, ⟨[(0, cellsI x), (1, cellsI z)], 2, 0⟩⟩
theorem n_0 (x : Iv) : Piece TbN N0 [1, 2] [0, 1] ⟨zipF 0 [enc x], 36, ⟨[], 0, 0⟩⟩ = some (.norm, s1N x zI) := by kernel_rfl
theorem n_1 (x : Iv) : Piece TbN N1 [1, 2] [0, 1] (s1N x zI) = bif !(F_impl_areAngles x) then some (.ret, s1N x F_impl_Whole) else some (.norm, s1N x zI) := by kernel_rfl
theorem n_3 (x : Iv) : opk (A := V × Mem) TbN.T (callk TbN.T (fun _ => TbN.drw) TbN.Es TbN.Bs TbN.N TbN.d) (s1N x zI) (nA 0) (fun v m => some (v, m)) = some (enc x, (s1N x zI).mm) := by kernel_rfl

/-- The list's block, and what stands for the list. -/
inductive FrN : List Nat → List (Nat × List V) → V → Prop
  | nil : FrN [1, 0] [] .nils
  | slc (n c : Nat) (cs : List V) : FrN [1, 0, 2] [(2, cs)] (.slc 2 0 n c)
def sN (x : Iv) (z : Iv) (n i : I64) (tl : List (Nat × List V)) (LV : V) (ex : List (Nat × V)) : St := ⟨ex ++ [(1, .ptr 0 0), (2, .ptr 1 0), (10, LV), (11, .i64 n), (12, .i64 i)], 36, ⟨(1, cellsI z) :: (0, cellsI x) :: tl, 3, 0⟩⟩
theorem n_4 {x z : Iv} {n i : I64} {bl : List Nat} {tl : List (Nat × List V)} {LV : V} (h : FrN bl tl LV) :
    Piece TbN N4 [13, 1, 2, 10, 11, 12] bl (sN x z n i tl LV []) = some (.norm, sN x z n i tl LV [(13, .bool (decide (i.val < n.val)))]) := by cases h <;> kernel_rfl
theorem n_6 {x : Iv} {n i k : I64} {bl : List Nat} {tl : List (Nat × List V)} {LV : V} (h : FrN bl tl LV) :
    Piece TbN N6 [1, 2, 10, 11, 12] bl (sN x zI n i tl LV [(4, .i64 k)]) = bif odd1 k then some (.ret, sN x F_impl_Whole n i tl LV []) else some (.norm, sN x zI n i tl LV []) := by cases h <;> kernel_rfl
theorem n_8 {x : Iv} {n i : I64} {bl : List Nat} {tl : List (Nat × List V)} {LV : V} (h : FrN bl tl LV) :
    Piece TbN N8 [1, 2, 10, 11, 12] bl (sN x zI n i tl LV []) = some (.norm, sN x zI n (.w .i64 (i.val + 1)) tl LV []) := by cases h <;> kernel_rfl
theorem n_9 {x : Iv} {n i : I64} {bl : List Nat} {tl : List (Nat × List V)} {LV : V} (h : FrN bl tl LV) :
    Piece TbN N9 [2] [1] (sN x zI n i tl LV []) = some (.ret, ⟨[(2, .ptr 1 0)], 36, ⟨[(1, cellsI (endN x))], 3, 0⟩⟩) := by cases h <;> kernel_rfl

/-- How things stand in the loop. -/
structure NInv (x : Iv) (wc : World) (L : List I64) (v : Value) (n i : I64) (ex : List (Nat × V)) (bl : List Nat) (tl : List (Nat × List V)) (LV : V) (ρ : Nat → Option Nat) (a : Act) (w : World) : Prop where
  rel : Rel wc ρ (sN x zI n i tl LV ex) a w
  fr : FrN bl tl LV
  hv : a.tmps[10]? = some v
  ls : (v = .slice none 0 0 ∧ L = [] ∧ tl = []) ∨ ∃ g cap m, v = .slice (some ⟨g, 0, none⟩) L.length cap ∧ ρ 2 = some g ∧ tl = [(2, (L ++ m).map V.i64)]

section
variable {x : Iv} {wc : World} {L : List I64} {v : Value} {n i : I64} {ex : List (Nat × V)} {bl : List Nat} {tl : List (Nat × List V)} {LV : V} {ρ : Nat → Option Nat} {a : Act} {w : World}
theorem NInv.go (h : NInv x wc L v n i ex bl tl LV ρ a w) (hLV : (v = .slice none 0 0 ∧ LV = .nils) ∨ ∃ g cap, v = .slice (some ⟨g, 0, none⟩) L.length cap ∧ LV = .slc 2 0 L.length cap ∧ ρ 2 = some g) {ρ' : Nat → Option Nat} (e : Ext ρ ρ') {i' : I64} {ex' : List (Nat × V)} {a' : Act} {w' : World}
    (hr : Rel wc ρ' (sN x zI n i' tl LV ex') a' w') (hlk : lk (sN x zI n i' tl LV ex').tm 10 = some LV) : NInv x wc L v n i' ex' bl tl LV ρ' a' w' := by
  obtain ⟨y, y1, y2⟩ := hr.tm 10 _ hlk
  refine ⟨hr, h.fr, ?_, ?_⟩
  · rcases hLV with ⟨rfl, rfl⟩ | ⟨g, cap, rfl, rfl, hg⟩
    · cases y2; exact y1
    · cases y2
      rename_i r hr'
      rw [e 2 g hg] at hr'; cases hr'; exact y1
  · rcases h.ls with h1 | ⟨g, cap, m, h1, h2, h3⟩
    · exact .inl h1
    · exact .inr ⟨g, cap, m, h1, e 2 g h2, h3⟩
end

theorem tan_rounds {x : Iv} {wc : World} {L : List I64} {v : Value} {n : I64} {bl : List Nat} {tl : List (Nat × List V)} {LV : V} (hn : n.val = L.length) (hL : L.length ≤ 4000) :
    ∀ (m : Nat) (i : I64) (ρ : Nat → Option Nat) (a : Act) (w : World) (Q : Exit → Act → World → Prop), NInv x wc L v n i [] bl tl LV ρ a w →
    ((v = .slice none 0 0 ∧ LV = .nils) ∨ ∃ g cap, v = .slice (some ⟨g, 0, none⟩) L.length cap ∧ LV = .slc 2 0 L.length cap ∧ ρ 2 = some g) →
    0 ≤ i.val → i.val + m = L.length + 1 → 1 ≤ m → ((L.drop i.val.toNat).any odd1 = false → ∀ i' ρ' a' w', NInv x wc L v n i' [] bl tl LV ρ' a' w' → Q (.exit 0) a' w') →
    ((L.drop i.val.toNat).any odd1 = true → ∀ i' ρ' a' w', Rel wc ρ' (sN x F_impl_Whole n i' tl LV []) a' w' → Q .ret a' w') → Code.rounds Tryz.prog NL Q m a w := by
  intro m
  induction m with
  | zero => intro i ρ a w Q _ _ _ _ h; omega
  | succ m ih =>
    intro i ρ a w Q h hLV hi hm _ hq hq'
    rw [rounds_succ, NL_eq]
    refine wp_seq (piece (n_4 h.fr) h.rel fun ρ1 a1 w1 e1 r1' => ?_)
    have hLV1 : (v = .slice none 0 0 ∧ LV = .nils) ∨ ∃ g cap, v = .slice (some ⟨g, 0, none⟩) L.length cap ∧ LV = .slc 2 0 L.length cap ∧ ρ1 2 = some g := by
      rcases hLV with h | ⟨g, cap, h1, h2, h3⟩
      · exact .inl h
      · exact .inr ⟨g, cap, h1, h2, e1 2 g h3⟩
    have i1 := h.go hLV e1 (ex' := [(13, .bool (decide (i.val < n.val)))]) r1' rfl
    obtain ⟨y, y1, y2⟩ := r1'.tm 13 _ rfl
    cases y2
    refine wp_seq (wp_cond (eval_tmp y1) ?_)
    by_cases hlt : i.val < n.val
    · rw [show decide (i.val < n.val) = true by simpa using hlt, if_pos rfl]
      refine wp_skip ?_
      show ((Code.block 1 (N5.seq N6)).seq N8).wp _ _ _ _
      refine wp_seq (wp_block (wp_seq ?_))
      rcases i1.ls with ⟨rfl, rfl, _⟩ | ⟨g, cap, mm, rfl, hg, htl⟩
      · simp at hn; omega
      have hil : i.val.toNat < L.length := by omega
      obtain ⟨kk, hkk⟩ : ∃ kk, L[i.val.toNat]? = some kk := ⟨L[i.val.toNat], by simp [hil]⟩
      obtain ⟨g', ys, ty, hg', hrow, hys⟩ := r1'.mr.blk 2 ((L ++ mm).map V.i64) (by rw [htl]; rfl)
      rw [hg] at hg'; cases hg'
      have hyse := vrs_i64 hys
      subst hyse
      obtain ⟨y24, z1, z2⟩ := r1'.tm 12 _ rfl
      cases z2
      have hsz : a1.tmps.size = 36 := r1'.sz
      rw [N5_eq]
      refine wp_region_lit ?_
      obtain ⟨ti, tz, hti, _, hts, _, _⟩ := ty_i64
      have hcs : Tryz.prog.cellsOf 2 = 1 := by simp [Program.cellsOf, hti, hts]
      refine Go.Great.wpList_runTo nB_0.1 (some 14) nB_0.2.2 (.pointer (some ⟨g, 0 + i.val.toNat * 1, none⟩)) w1 ?_ ?_
      · have hsr := run_cells (P := Tryz.prog) (t := 2) hcs (by decide) w1
        have hrun : (Instr.indexAt 117 (.slice (some ⟨g, 0, none⟩) L.length cap) (.int .i64 i.val)).run Tryz.prog w1 = .ok (.pointer (some ⟨g, 0 + i.val.toNat * 1, none⟩)) w1 := by
          simp [Instr.indexAt, asIntOf, run_underlying ty_list, hi, show i.val < (L.length : Int) by omega, hsr, addr_add]
        simp only [execOp, nB_0.2.1, eval_tmp i1.hv, eval_tmp z1, Sem.run_bind, hrun, Result.andThen_ok, Sem.run_pure]
      have f1 : (a1.put (some 14) (.pointer (some ⟨g, 0 + i.val.toNat * 1, none⟩))).tmps[14]? = some (.pointer (some ⟨g, 0 + i.val.toNat * 1, none⟩)) := by rw [put_get (by omega), if_pos rfl]
      have g1 : (a1.put (some 14) (.pointer (some ⟨g, 0 + i.val.toNat * 1, none⟩))).tmps.size = 36 := by rw [put_size, hsz]
      have hcell : w1.cell? ⟨g, 0 + i.val.toNat * 1, none⟩ = some (iv64 kk) := by
        rw [cell_of_row w1 g _ _ ty _ hrow]
        simp only [Nat.zero_add, Nat.mul_one, List.getElem?_toArray, List.getElem?_map]
        rw [List.getElem?_append_left hil, hkk]; rfl
      refine Go.Great.wpList_runTo nB_1.1 (some 15) nB_1.2.2 (iv64 kk) w1 ?_ ?_
      · have hagg := Y2.run_agg (b := false) (by kernel_rfl) w1
        have hag : (isAgg 2).run Tryz.prog w1 = .ok false w1 := hagg
        simp only [execOp, nB_1.2.1, eval_tmp f1, Instr.loadAt, Instr.sureAddr, loadVar, hag, Sem.run_bind, Sem.run_pure, Result.andThen_ok, Bool.false_eq_true, if_false, run_load, hcell]
      generalize hA2 : a1.put (some 14) (.pointer (some ⟨g, 0 + i.val.toNat * 1, none⟩)) = a2 at *
      have f2 : (a2.put (some 15) (iv64 kk)).tmps[15]? = some (iv64 kk) := by rw [put_get (by omega), if_pos rfl]
      have g2 : (a2.put (some 15) (iv64 kk)).tmps.size = 36 := by rw [put_size, g1]
      refine Go.Great.wpList_runTo nB_2.1 (some 4) nB_2.2.2 (iv64 kk) w1 (by simp only [execOp, nB_2.2.1, Sem.run_pure, eval_tmp f2]) ?_
      refine wpList_nil ?_
      show N6.wp _ _ _ _
      have r2 : Rel wc ρ1 (sN x zI n i tl LV [(4, .i64 kk)]) ((a2.put (some 15) (iv64 kk)).put (some 4) (iv64 kk)) w1 := by
        refine ⟨fun t' u hu => ?_, by rw [put_size, g2]; rfl, ?_, r1'.mr⟩
        · simp only [sN, List.cons_append, List.nil_append, lk_cons] at hu
          by_cases h7 : 4 = t'
          · subst h7
            simp at hu; subst hu
            exact ⟨iv64 kk, by rw [put_get (by omega), if_pos rfl], .i64 _⟩
          · rw [if_neg h7] at hu
            have hu' : lk (sN x zI n i tl LV [(13, .bool (decide (i.val < n.val)))]).tm t' = some u ∧ t' ≠ 14 ∧ t' ≠ 15 := by
              simp only [sN, List.cons_append, List.nil_append, lk_cons]
              by_cases h25 : 13 = t'
              · subst h25; simp [lk] at hu
              · rw [if_neg h25]
                refine ⟨hu, ?_, ?_⟩
                · rintro rfl; simp [lk] at hu
                · rintro rfl; simp [lk] at hu
            obtain ⟨y, y1, y2⟩ := r1'.tm t' u hu'.1
            refine ⟨y, ?_, y2⟩
            rw [put_get (by omega), if_neg (fun e => h7 e.symm), put_get (by omega), if_neg hu'.2.2, ← hA2, put_get (by omega), if_neg hu'.2.1]
            exact y1
        · rw [put_df, put_df, ← hA2, put_df]; exact r1'.df
      have i2 : NInv x wc L (.slice (some ⟨g, 0, none⟩) L.length cap) n i [(4, .i64 kk)] bl tl LV ρ1 ((a2.put (some 15) (iv64 kk)).put (some 4) (iv64 kk)) w1 := by
        refine ⟨r2, i1.fr, ?_, i1.ls⟩
        rw [put_get (by omega), if_neg (by decide), put_get (by omega), if_neg (by decide), ← hA2, put_get (by omega), if_neg (by decide)]
        exact i1.hv
      have hdrop : L.drop i.val.toNat = kk :: L.drop (i.val.toNat + 1) := by
        have hkk' : L[i.val.toNat] = kk := by rw [List.getElem?_eq_getElem hil] at hkk; simpa using hkk
        rw [List.drop_eq_getElem_cons hil, hkk']
      have ev : (Rng.w .i64 (i.val + 1)).val = i.val + 1 := wi (by omega) (by omega)
      rw [hdrop, List.any_cons] at hq hq'
      have q6 := n_6 (x := x) (n := n) (i := i) (k := kk) i2.fr
      cases hc1 : odd1 kk
      · rw [hc1, cond_false] at q6
        refine piece q6 i2.rel fun ρ3 a3 w3 e3 r3 => ?_
        have i3 := i2.go hLV1 e3 (ex' := []) r3 rfl
        have hLV3 : (Value.slice (some ⟨g, 0, none⟩) L.length cap = .slice none 0 0 ∧ LV = .nils) ∨ ∃ g' cap', Value.slice (some ⟨g, 0, none⟩) L.length cap = .slice (some ⟨g', 0, none⟩) L.length cap' ∧ LV = .slc 2 0 L.length cap' ∧ ρ3 2 = some g' := by
          rcases hLV1 with h | ⟨g', cap', h1, h2, h3⟩
          · exact .inl h
          · exact .inr ⟨g', cap', h1, h2, e3 2 g' h3⟩
        refine piece (n_8 i3.fr) i3.rel fun ρ4 a4 w4 e4 r4 => ?_
        have i4 := i3.go hLV3 e4 (ex' := []) r4 rfl
        rw [hc1, Bool.false_or] at hq hq'
        refine ih (.w .i64 (i.val + 1)) ρ4 a4 w4 Q i4 ?_ (by rw [ev]; omega) (by rw [ev]; omega) (by omega) ?_ ?_
        · rcases hLV3 with h | ⟨g', cap', h1, h2, h3⟩
          · exact .inl h
          · exact .inr ⟨g', cap', h1, h2, e4 2 g' h3⟩
        · rw [ev, show (i.val + 1).toNat = i.val.toNat + 1 by omega]; exact hq
        · rw [ev, show (i.val + 1).toNat = i.val.toNat + 1 by omega]; exact hq'
      · rw [hc1, cond_true] at q6
        refine piece q6 i2.rel fun ρ3 a3 w3 e3 r3 => ?_
        rw [hc1, Bool.true_or] at hq'
        exact hq' rfl i ρ3 a3 w3 r3
    · rw [show decide (i.val < n.val) = false by simpa using hlt, if_neg (by decide)]
      refine wp_exit ?_
      have hd : L.drop i.val.toNat = [] := List.drop_eq_nil_of_le (by omega)
      rw [hd] at hq
      refine hq rfl i ρ1 a1 w1 ⟨?_, i1.fr, i1.hv, i1.ls⟩
      exact ⟨fun t' u hu => r1'.tm t' u (by
        simp only [sN, List.cons_append, List.nil_append, lk_cons] at hu ⊢
        by_cases h25 : 13 = t'
        · subst h25; simp [lk] at hu
        · rw [if_neg h25]; exact hu), r1'.sz, r1'.df, r1'.mr⟩

noncomputable def F_impl_TanI (x : Iv) : Iv := bif !(F_impl_areAngles x) then F_impl_Whole else bif (keepF x 1000 (k0 x)).any odd1 then F_impl_Whole else endN x

theorem tan_does (x : Iv) {ρ : Nat → Option Nat} {xs : List Value} {w : World} (hv : VRs ρ [enc x] xs) :
    Does Tryz.prog 85 xs.toArray w fun v w' => (∀ ρ, VR ρ (enc (F_impl_TanI x)) v) ∧ Below w.heap.size w w' := by
  refine does_of_wp BN (vs := [enc x]) (show 1 ≤ BN.fn.ntmps by decide +kernel) hv rfl fun a hR => ?_
  have hres : ∀ (o : Iv) (tm : List (Nat × V)) (bs : List (Nat × List V)) (n : Nat), resv (P := Tryz.prog) TbN.T ⟨(2, .ptr 1 0) :: tm, 36, ⟨(1, cellsI o) :: bs, n, 0⟩⟩ BN.fn.results.toList = some [enc o] := by
    intro o tm bs n; kernel_rfl
  have fin : ∀ (o : Iv) (tm : List (Nat × V)) (bs : List (Nat × List V)) (n : Nat) (ρ' : Nat → Option Nat) (a' : Act) (w' : World), o = F_impl_TanI x → Rel w ρ' ⟨(2, .ptr 1 0) :: tm, 36, ⟨(1, cellsI o) :: bs, n, 0⟩⟩ a' w' →
      bodyPost Tryz.prog BN.fn (fun e w' => ∃ v, e = .returned v ∧ (∀ ρ, VR ρ (enc (F_impl_TanI x)) v) ∧ Below w.heap.size w w') .ret a' w' := by
    intro o tm bs n ρ' a' w' ho hr
    obtain ⟨z, z1, z2⟩ := results_run (P := Tryz.prog) hr (hres o tm bs n)
    subst ho
    exact ⟨hr.df, z, z1, z, rfl, fun ρ2 => z2.pf rfl, hr.mr.bel⟩
  have fin1 : ∀ (o : Iv) (ρ' : Nat → Option Nat) (a' : Act) (w' : World) (tm : List (Nat × V)) (bs : List (Nat × List V)) (n : Nat), lk tm 2 = some (.ptr 1 0) → lk bs 1 = some (cellsI o) → o = F_impl_TanI x → Rel w ρ' ⟨tm, 36, ⟨bs, n, 0⟩⟩ a' w' →
      bodyPost Tryz.prog BN.fn (fun e w' => ∃ v, e = .returned v ∧ (∀ ρ, VR ρ (enc (F_impl_TanI x)) v) ∧ Below w.heap.size w w') .ret a' w' := by
    intro o ρ' a' w' tm bs n h2 h1 ho hr
    refine fin o [] [] n ρ' a' w' ho ⟨fun t' u hu => hr.tm t' u ?_, hr.sz, hr.df, ⟨fun b cs hb => hr.mr.blk b cs ?_, hr.mr.inj, hr.mr.fresh, hr.mr.dom, hr.mr.own, hr.mr.bel, hr.mr.lon⟩⟩
    · simp only [lk_cons] at hu
      by_cases h4 : 2 = t'
      · subst h4; simp at hu; subst hu; exact h2
      · rw [if_neg h4] at hu; simp [lk] at hu
    · simp only [lk_cons] at hb
      by_cases h4 : 1 = b
      · subst h4; simp at hb; subst hb; exact h1
      · rw [if_neg h4] at hb; simp [lk] at hb
  rw [BN_eq]
  refine wp_seq (piece (n_0 x) hR fun ρ1 a1 w1 e1 r1 => ?_)
  have q1 := n_1 x
  cases hang : F_impl_areAngles x
  · rw [hang, Bool.not_false, cond_true] at q1
    refine wp_seq (piece q1 r1 fun ρ2 a2 w2 e2 r2 => ?_)
    exact fin1 F_impl_Whole ρ2 a2 w2 _ _ _ rfl rfl (by simp only [F_impl_TanI, hang, Bool.not_false, cond_true]) r2
  rw [hang, Bool.not_true, cond_false] at q1
  refine wp_seq (piece q1 r1 fun ρ3 a3 w3 e3 r3 => ?_)
  show ((N3.seq (.block 0 (.loop NL))).seq N9).wp _ _ _ _
  refine wp_seq (wp_seq ?_)
  rw [N3_eq]
  refine wp_region_lit ?_
  refine op_step (n_3 x) nA_0.1 (by rw [nA_0.2]; rfl) r3 fun ρ4 a4 w4 e4 r4 => ?_
  rw [nA_0.2] at r4
  obtain ⟨y21, p1, p2⟩ := r4.tm 9 (enc x) rfl
  have hb1 := r4.mr.bel
  refine wpList_plain nA_1.1 fun K hK => ?_
  have ecall : (execOp a4.eval (nA 1)).run Tryz.prog w4 = (callFunc 211 [y21].toArray).run Tryz.prog w4 := by
    simp only [execOp, nA_1.2.1, resolve, List.map_toArray, List.map_cons, List.map_nil, eval_tmp p1]
    rfl
  unfold Oper.wp
  rw [ecall]
  refine turns_does x (.cons p2 .nil) (nA 1) a4 K _ fun v w5 hvw => hK _ _ ?_
  obtain ⟨hown, hbel⟩ := hvw
  rw [nA_1.2.2]
  have hsz : a4.tmps.size = 36 := r4.sz
  have s1 : (a4.put (some 10) v).tmps.size = 36 := by rw [put_size, hsz]
  have f22 : (a4.put (some 10) v).tmps[10]? = some v := by rw [put_get (by omega), if_pos rfl]
  have hlen := keepF_len x 1000 (k0 x)
  generalize hL : keepF x 1000 (k0 x) = L at *
  obtain ⟨av, cv, hve⟩ := own_len hown
  refine Go.Great.wpList_runTo nA_2.1 (some 11) nA_2.2.2 (.int .i64 (L.length : Int)) w5 ?_ ?_
  · have hrun : (Builtin.len_ #[117] (nA 2).type #[v]).run Tryz.prog w5 = .ok (.int .i64 (L.length : Int)) w5 := by
      have h1 : (#[117] : Array TypeId)[0]? = some 117 := rfl
      have h2 : (#[v] : Array Value)[0]? = some (.slice av L.length cv) := by rw [hve]; rfl
      simp only [Builtin.len_, h1, h2, Sem.run_bind, run_underlying ty_list, Result.andThen_ok, Sem.run_pure, goInt]
    simp only [execOp, nA_2.2.1, resolve, invoke, builtin, pure_bind, List.map_toArray, List.map_cons, List.map_nil, eval_tmp f22, Sem.run_bind, Sem.run_pure, hrun, Result.andThen_ok]
  have s2 : ((a4.put (some 10) v).put (some 11) (.int .i64 (L.length : Int))).tmps.size = 36 := by rw [put_size, s1]
  refine Go.Great.wpList_runTo nA_3.1 (some 12) nA_3.2.2 (.int .i64 0) w5 (by simp only [execOp, nA_3.2.1, Act.eval, Sem.run_pure]) ?_
  have s3 : (((a4.put (some 10) v).put (some 11) (.int .i64 (L.length : Int))).put (some 12) (.int .i64 0)).tmps.size = 36 := by rw [put_size, s2]
  have g22 : (((a4.put (some 10) v).put (some 11) (.int .i64 (L.length : Int))).put (some 12) (.int .i64 0)).tmps[10]? = some v := by rw [put_get (by omega), if_neg (by decide), put_get (by omega), if_neg (by decide), put_get (by omega), if_pos rfl]
  have g23 : (((a4.put (some 10) v).put (some 11) (.int .i64 (L.length : Int))).put (some 12) (.int .i64 0)).tmps[11]? = some (.int .i64 (L.length : Int)) := by rw [put_get (by omega), if_neg (by decide), put_get (by omega), if_pos rfl]
  have g24 : (((a4.put (some 10) v).put (some 11) (.int .i64 (L.length : Int))).put (some 12) (.int .i64 0)).tmps[12]? = some (.int .i64 0) := by rw [put_get (by omega), if_pos rfl]
  have gold : ∀ t', t' ≠ 10 → t' ≠ 11 → t' ≠ 12 → (((a4.put (some 10) v).put (some 11) (.int .i64 (L.length : Int))).put (some 12) (.int .i64 0)).tmps[t']? = a4.tmps[t']? := fun t' h1 h2 h3 => by
    rw [put_get (by omega), if_neg h3, put_get (by omega), if_neg h2, put_get (by omega), if_neg h1]
  have gdf : (((a4.put (some 10) v).put (some 11) (.int .i64 (L.length : Int))).put (some 12) (.int .i64 0)).defers = [] := by rw [put_df, put_df, put_df]; exact r4.df
  generalize ((a4.put (some 10) v).put (some 11) (.int .i64 (L.length : Int))).put (some 12) (.int .i64 0) = a6 at *
  refine wpList_nil ?_
  show (Code.block 0 (.loop NL)).wp _ _ _ _
  have hnv : (Rng.w .i64 (L.length : Int)).val = L.length := wi (by omega) (by omega)
  have mk : ∀ (ρ5 : Nat → Option Nat) (tl : List (Nat × List V)) (LV : V), Ext ρ4 ρ5 → VR ρ5 LV v → (∀ b r, ρ5 b = some r → ρ4 b = some r ∨ (b = 2 ∧ w4.heap.size ≤ r ∧ r < w5.heap.size)) →
      (∀ b cs, lk tl b = some cs → ∃ r xs t, ρ5 b = some r ∧ w5.heap[r]? = some (.cells xs.toArray t (0, 0)) ∧ VRs ρ5 cs xs) → Rel w ρ5 (sN x zI (.w .i64 (L.length : Int)) ⟨0, rfl⟩ tl LV []) a6 w5 := by
    intro ρ5 tl LV he hLV hnew htl
    have old : ∀ b r, ρ4 b = some r → r < w4.heap.size := r4.mr.dom
    refine ⟨fun t' u hu => ?_, s3, gdf, ⟨fun b cs hb => ?_, fun b b' r h1 h2 => ?_, fun b hb => ?_, fun b r hr => ?_, fun b r _ hr => ?_, hb1.trans (hbel.mono hb1.size), Nat.zero_le _⟩⟩
    · simp only [sN, List.nil_append, lk_cons] at hu
      by_cases h1 : 1 = t'
      · subst h1; simp at hu; subst hu
        obtain ⟨y, y1, y2⟩ := r4.tm 1 (.ptr 0 0) rfl
        exact ⟨y, by rw [gold 1 (by decide) (by decide) (by decide)]; exact y1, y2.mono he⟩
      rw [if_neg h1] at hu
      by_cases h4 : 2 = t'
      · subst h4; simp at hu; subst hu
        obtain ⟨y, y1, y2⟩ := r4.tm 2 (.ptr 1 0) rfl
        exact ⟨y, by rw [gold 2 (by decide) (by decide) (by decide)]; exact y1, y2.mono he⟩
      rw [if_neg h4] at hu
      by_cases h22 : 10 = t'
      · subst h22; simp at hu; subst hu; exact ⟨v, g22, hLV⟩
      rw [if_neg h22] at hu
      by_cases h23 : 11 = t'
      · subst h23; simp at hu; subst hu
        refine ⟨_, g23, ?_⟩
        have := VR.i64 (ρ := ρ5) (Rng.w .i64 (L.length : Int))
        rw [hnv] at this; exact this
      rw [if_neg h23] at hu
      by_cases h24 : 12 = t'
      · subst h24; simp at hu; subst hu; exact ⟨_, g24, .i64 _⟩
      rw [if_neg h24] at hu; simp [lk] at hu
    · have keep : ∀ b cs, lk (s1N x zI).mm.blks b = some cs → ∃ r xs t, ρ5 b = some r ∧ w5.heap[r]? = some (.cells xs.toArray t (0, 0)) ∧ VRs ρ5 cs xs := fun b cs hb => by
        obtain ⟨r, xs, t', h1, h2, h3⟩ := r4.mr.blk b cs hb
        exact ⟨r, xs, t', he _ _ h1, by rw [hbel.block r (old b r h1)]; exact h2, h3.mono he⟩
      simp only [sN, lk_cons] at hb
      by_cases h2 : 1 = b
      · subst h2; simp at hb; subst hb; exact keep 1 _ rfl
      rw [if_neg h2] at hb
      by_cases h1 : 0 = b
      · subst h1; simp at hb; subst hb; exact keep 0 _ rfl
      rw [if_neg h1] at hb
      exact htl b cs hb
    · rcases hnew b r h1 with h1 | h1 <;> rcases hnew b' r h2 with h2 | h2
      · exact r4.mr.inj b b' r h1 h2
      · have := old b r h1; omega
      · have := old b' r h2; omega
      · omega
    · have hb3 : 3 ≤ b := hb
      cases hr : ρ5 b with
      | none => rfl
      | some r =>
        rcases hnew b r hr with h1 | h1
        · have := r4.mr.fresh b (show 2 ≤ b by omega)
          rw [this] at h1; cases h1
        · omega
    · rcases hnew b r hr with h1 | h1
      · have h2 := old b r h1; have h3 := hbel.size; omega
      · exact h1.2.2
    · rcases hnew b r hr with h1 | h1
      · exact r4.mr.own b r (Nat.zero_le _) h1
      · have h2 := hb1.size; omega
  have run : ∀ (ρ5 : Nat → Option Nat) (bl : List Nat) (tl : List (Nat × List V)) (LV : V), NInv x w L v (.w .i64 (L.length : Int)) ⟨0, rfl⟩ [] bl tl LV ρ5 a6 w5 →
      ((v = .slice none 0 0 ∧ LV = .nils) ∨ ∃ g cap, v = .slice (some ⟨g, 0, none⟩) L.length cap ∧ LV = .slc 2 0 L.length cap ∧ ρ5 2 = some g) →
      (Code.block 0 (.loop NL)).wp Tryz.prog (Exit.then (N9.wp Tryz.prog (bodyPost Tryz.prog BN.fn (fun e w' => ∃ v, e = .returned v ∧ (∀ ρ, VR ρ (enc (F_impl_TanI x)) v) ∧ Below w.heap.size w w'))) (bodyPost Tryz.prog BN.fn (fun e w' => ∃ v, e = .returned v ∧ (∀ ρ, VR ρ (enc (F_impl_TanI x)) v) ∧ Below w.heap.size w w'))) a6 w5 := by
    intro ρ5 bl tl LV hi hLV
    refine wp_block (wp_loop_rounds (L.length + 1) (tan_rounds hnv (by omega) (L.length + 1) ⟨0, rfl⟩ _ _ _ _ hi hLV (by decide) (by simp) (by omega) (fun hany i' ρ6 a7 w7 hh => ?_) (fun hany i' ρ6 a7 w7 hh => ?_)))
    · show N9.wp _ _ _ _
      refine piece (n_9 hh.fr) hh.rel fun ρ7 a8 w8 e8 r8 => ?_
      refine fin (endN x) [] [] 3 ρ7 a8 w8 ?_ r8
      have hany' : L.any odd1 = false := hany
      simp only [F_impl_TanI, hang, Bool.not_true, cond_false, hL, hany']
    · have hany' : L.any odd1 = true := hany
      exact fin1 F_impl_Whole ρ6 a7 w7 _ _ _ rfl rfl (by simp only [F_impl_TanI, hang, Bool.not_true, cond_false, hL, hany', cond_true]) hh
  rcases hown with ⟨rfl, hLn⟩ | ⟨g, cap, m, rfl, h2, h3, h4⟩
  · refine run ρ4 [1, 0] [] .nils ⟨mk ρ4 [] .nils (Ext.refl _) .nils (fun b r h => .inl h) (fun b cs h => by simp [lk] at h), .nil, g22, .inl ⟨rfl, hLn, rfl⟩⟩ (.inl ⟨rfl, rfl⟩)
  · have hgs : g < w5.heap.size := (Array.getElem?_eq_some_iff.1 h3).1
    have hn3 : ρ4 2 = none := r4.mr.fresh 2 (show 2 ≤ 2 by omega)
    have hE : Ext ρ4 (fun b => if b = 2 then some g else ρ4 b) := fun b r hr => by
      by_cases hb : b = 2
      · subst hb; rw [hn3] at hr; cases hr
      · simp [hb, hr]
    have h33 : (fun b => if b = 2 then some g else ρ4 b : Nat → Option Nat) 2 = some g := by simp
    refine run _ [1, 0, 2] [(2, (L ++ m).map V.i64)] (.slc 2 0 L.length cap) ⟨mk _ _ _ hE (.slc h33) (fun b r hr => ?_) (fun b cs hb => ?_), .slc _ _ _, g22, .inr ⟨g, cap, m, rfl, h33, rfl⟩⟩ (.inr ⟨g, cap, rfl, rfl, h33⟩)
    · split at hr
      · cases hr; exact .inr ⟨by assumption, h2, hgs⟩
      · exact .inl hr
    · simp only [lk_cons] at hb
      by_cases h : 2 = b
      · subst h; simp at hb; subst hb
        exact ⟨g, (L ++ m).map iv64, _, h33, h3, by simpa using vrs_mk (L ++ m)⟩
      · rw [if_neg h] at hb; simp [lk] at hb

noncomputable def E_impl_TanI : Ent Tryz.prog where
  id := 85
  g := fun _ _ => true
  fn := fun vs _ => match vs with
    | [x] => match (dec x : Option Iv) with
      | some x => some (enc (F_impl_TanI x))
      | _ => none
    | _ => none
  ok := fun vs m v _ hf w0 ρ xs w hv hm => by
    split at hf <;> try (cases hf; done)
    split at hf <;> try (cases hf; done)
    rename_i x hx
    cases hf
    have e1 := Enc.dec_enc _ _ hx
    subst e1
    exact (tan_does x hv).mono fun v w' h => ⟨h.1 ρ, h.2⟩
end Go.Proofs.YtecfhpgpojgjkaaGreat.Ev
