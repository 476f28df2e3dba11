/-
  The walk of turnsIn.
-/
import Derived.Test.YtcfflflcbacapaaGreatPC
namespace Go.Proofs.YtcfflflcbacapaaGreat.Ev
open Go Go.RowKit
set_option maxRecDepth 100000
set_option linter.unusedSimpArgs false
set_option linter.unusedVariables false

noncomputable def TbT : Tb Tryz.prog := { T := [Y2, Y27], mix := mix, Es := [E_impl_QuarterOf, ET_impl_TurnI, E_impl_OverlapI], N := 1 }
noncomputable def BT : Bod Tryz.prog := ⟨246, Tryz.f246, Tryz.f246.body.getD .skip, Tryz.func246, by kernel_rfl, by kernel_rfl, Loops.no _ _⟩
noncomputable def KT0 : Code := sL BT.code
noncomputable def KT1 : Code := sL (sR BT.code)
noncomputable def KT2 : Code := sL (sL (sR (sR BT.code)))
noncomputable def KTL : Code := unl (unb (sR (sL (sR (sR BT.code)))))
noncomputable def KT7 : Code := sR (sR (sR BT.code))
theorem BT_eq : BT.code = KT0.seq (KT1.seq ((KT2.seq (.block 0 (.loop KTL))).seq KT7)) := by kernel_rfl
noncomputable def KTA : Code := sL KTL
noncomputable def KTB : Code := sL (unb (sL (sR KTL)))
noncomputable def KT6 : Code := thn (sR (unb (sL (sR KTL))))
noncomputable def KTC : Code := sR (sR KTL)
theorem KTL_eq : KTL = KTA.seq ((Code.block 1 (KTB.seq (.cond (.tmp 20) KT6 .skip))).seq KTC) := by kernel_rfl
noncomputable def o6 (i : Nat) : Oper := (opsL KT6).getD i default
theorem KT6_eq : KT6 = .region 6 [o6 0, o6 1, o6 2, o6 3, o6 4].toArray false := by kernel_rfl
def pair (x : Iv) : List (Nat × List V) := [(0, [.i64 x.lo, .i64 x.hi])]
def sT (x : Iv) (k : I64) (LV : V) : St := ⟨[(1, .ptr 0 0), (4, .i64 k), (3, LV)], 26, ⟨pair x, 2, 2⟩⟩
noncomputable def k0 (x : Iv) : I64 := .w .i64 ((F_impl_QuarterOf x.lo).val - 1)
noncomputable def k1 (x : Iv) : I64 := .w .i64 ((F_impl_QuarterOf x.hi).val + 1)
theorem p_0 (x : Iv) : Piece TbT KT0 [1] [0] ⟨zipF 0 [enc x], 26, ⟨[], 0, 0⟩⟩ = some (.norm, ⟨[(1, .ptr 0 0)], 26, ⟨pair x, 1, 0⟩⟩) := by kernel_rfl
theorem p_1 (x : Iv) : Piece TbT KT1 [1, 3] [0] ⟨[(1, .ptr 0 0)], 26, ⟨pair x, 1, 0⟩⟩ = some (.norm, ⟨[(1, .ptr 0 0), (3, .nils)], 26, ⟨pair x, 1, 0⟩⟩) := by kernel_rfl
theorem p_2 (x : Iv) : Piece TbT KT2 [1, 4, 3] [0] ⟨[(1, .ptr 0 0), (3, .nils)], 26, ⟨pair x, 1, 0⟩⟩ = some (.norm, ⟨[(1, .ptr 0 0), (4, .i64 (k0 x)), (3, .nils)], 26, ⟨pair x, 1, 0⟩⟩) := by kernel_rfl
theorem p_A (x : Iv) (k : I64) (LV : V) : Piece TbT KTA [1, 4, 3] [0] (sT x k LV) = bif decide (k.val ≤ (k1 x).val) then some (.norm, sT x k LV) else some (.exit 0, sT x k LV) := by kernel_rfl
theorem p_B (x : Iv) (k : I64) (LV : V) : Piece TbT KTB [20, 1, 4, 3] [0] (sT x k LV) = some (.norm, ⟨[(20, .bool (F_impl_OverlapI (F_impl_TurnI k) x)), (1, .ptr 0 0), (4, .i64 k), (3, LV)], 26, ⟨pair x, 2, 2⟩⟩) := by kernel_rfl
theorem p_C (x : Iv) (k : I64) (LV : V) : Piece TbT KTC [1, 4, 3] [0] (sT x k LV) = some (.norm, sT x (.w .i64 (k.val + 1)) LV) := by kernel_rfl
theorem p_7 (x : Iv) (k : I64) (LV : V) : Piece TbT KT7 [2] [0] (sT x k LV) = some (.ret, ⟨[(2, LV)], 26, ⟨pair x, 2, 2⟩⟩) := by kernel_rfl

/-- The quarter turns that overlap, in order. -/
noncomputable def keepF (x : Iv) : Nat → I64 → List I64
  | 0, _ => []
  | n + 1, k => bif decide (k.val ≤ (k1 x).val) then (bif F_impl_OverlapI (F_impl_TurnI k) x then k :: keepF x n (.w .i64 (k.val + 1)) else keepF x n (.w .i64 (k.val + 1))) else []

/-- How things stand at the loop's head. -/
structure TInv (x : Iv) (wc : World) (r0 : Nat) (ty : TypeId) (k : I64) (l : List I64) (v : Value) (a : Act) (w : World) : Prop where
  sz : a.tmps.size = 26
  df : a.defers = []
  t1 : a.tmps[1]? = some (.pointer (some ⟨r0, 0, none⟩))
  t4 : a.tmps[4]? = some (iv64 k)
  t3 : a.tmps[3]? = some v
  row : w.heap[r0]? = some (.cells #[iv64 x.lo, iv64 x.hi] ty (0, 0))
  own : OwnI wc.heap.size 2 w v l
  ne : v.ownBlock ≠ some r0
  bel : Below wc.heap.size wc w
  r0b : wc.heap.size ≤ r0

section
variable {x : Iv} {wc : World} {r0 : Nat} {ty : TypeId} {k : I64} {l : List I64} {v : Value} {a : Act} {w : World}

theorem TInv.enter (h : TInv x wc r0 ty k l v a w) : ∃ LV ρ, Rel w ρ (sT x k LV) a w ∧ ρ 0 = some r0 ∧ (∀ ρ' y, Ext ρ ρ' → VR ρ' LV y → y = v) := by
  have hr0 : r0 < w.heap.size := (Array.getElem?_eq_some_iff.1 h.row).1
  have blk : ∀ ρ : Nat → Option Nat, ρ 0 = some r0 → ∀ b cs, lk (pair x) b = some cs → ∃ r xs t, ρ b = some r ∧ w.heap[r]? = some (.cells xs.toArray t (0, 0)) ∧ VRs ρ cs xs := fun ρ h0 b cs hb => by
    simp only [pair, lk_cons] at hb
    by_cases hb0 : 0 = b
    · subst hb0
      simp at hb; subst hb
      exact ⟨r0, [iv64 x.lo, iv64 x.hi], ty, h0, h.row, .cons (.i64 _) (.cons (.i64 _) .nil)⟩
    · rw [if_neg hb0] at hb; simp [lk] at hb
  have tmv : ∀ (ρ : Nat → Option Nat) (LV : V), ρ 0 = some r0 → VR ρ LV v → ∀ t u, lk (sT x k LV).tm t = some u → ∃ y, a.tmps[t]? = some y ∧ VR ρ u y := fun ρ LV h0 hL t u hu => by
    simp only [sT, lk_cons] at hu
    by_cases h1 : 1 = t
    · subst h1; simp at hu; subst hu; exact ⟨_, h.t1, .ptr h0⟩
    · rw [if_neg h1] at hu
      by_cases h4 : 4 = t
      · subst h4; simp at hu; subst hu; exact ⟨_, h.t4, .i64 _⟩
      · rw [if_neg h4] at hu
        by_cases h3 : 3 = t
        · subst h3; simp at hu; subst hu; exact ⟨_, h.t3, hL⟩
        · rw [if_neg h3] at hu; simp [lk] at hu
  rcases h.own with ⟨rfl, rfl⟩ | ⟨g, cap, m, rfl, h2, h3, h4⟩
  · have h0 : (fun b => if b = 0 then some r0 else none : Nat → Option Nat) 0 = some r0 := rfl
    refine ⟨.nils, fun b => if b = 0 then some r0 else none, ⟨tmv _ _ h0 .nils, h.sz, h.df, ⟨blk _ h0, ?_, ?_, ?_, ?_, Below.refl _ _, Nat.le_refl _⟩⟩, h0, fun ρ' y _ hy => by cases hy; rfl⟩
    · intro b b' r h1 h2; split at h1 <;> split at h2 <;> simp_all
    · intro b hb; simp only [sT] at hb; rw [if_neg (by omega)]
    · intro b r hr; split at hr <;> simp_all
    · intro b r hb hr; simp only [sT] at hb; rw [if_neg (by omega)] at hr; cases hr
  · have hg : g < w.heap.size := (Array.getElem?_eq_some_iff.1 h3).1
    have hne : g ≠ r0 := fun e => h.ne (by simp [Value.ownBlock, e])
    have h0 : (fun b => if b = 0 then some r0 else if b = 1 then some g else none : Nat → Option Nat) 0 = some r0 := rfl
    have hh1 : (fun b => if b = 0 then some r0 else if b = 1 then some g else none : Nat → Option Nat) 1 = some g := rfl
    refine ⟨.slc 1 0 l.length cap, fun b => if b = 0 then some r0 else if b = 1 then some g else none, ⟨tmv _ _ h0 (.slc hh1), h.sz, h.df, ⟨blk _ h0, ?_, ?_, ?_, ?_, Below.refl _ _, Nat.le_refl _⟩⟩, h0, fun ρ' y he hy => ?_⟩
    · intro b b' r h1 h2
      split at h1 <;> split at h2 <;> (try split at h1) <;> (try split at h2) <;> simp_all
    · intro b hb; simp only [sT] at hb; rw [if_neg (by omega), if_neg (by omega)]
    · intro b r hr
      split at hr
      · simp_all
      · split at hr <;> simp_all
    · intro b r hb hr; simp only [sT] at hb; rw [if_neg (by omega), if_neg (by omega)] at hr; cases hr
    · have := he 1 g hh1
      cases hy
      rename_i r hr
      rw [this] at hr; cases hr; rfl

theorem TInv.leave (h : TInv x wc r0 ty k l v a w) {LV : V} {ρ' : Nat → Option Nat} (hL : ∀ y, VR ρ' LV y → y = v) (h0 : ρ' 0 = some r0) {k' : I64} {tm : List (Nat × V)} {m : Mem} {a' : Act} {w' : World}
    (hr : Rel w ρ' ⟨tm, 26, m⟩ a' w') (h1 : lk tm 1 = some (.ptr 0 0)) (h4 : lk tm 4 = some (.i64 k')) (h3 : lk tm 3 = some LV) : TInv x wc r0 ty k' l v a' w' := by
  have hb := hr.mr.bel
  obtain ⟨y1, a1, b1⟩ := hr.tm 1 _ h1
  obtain ⟨y4, a4, b4⟩ := hr.tm 4 _ h4
  obtain ⟨y3, a3, b3⟩ := hr.tm 3 _ h3
  have := hL _ b3
  subst this
  have hr0 : r0 < w.heap.size := (Array.getElem?_eq_some_iff.1 h.row).1
  refine ⟨hr.sz, hr.df, ?_, ?_, a3, by rw [hb.block r0 hr0]; exact h.row, h.own.below hb, h.ne, h.bel.trans (hb.mono h.bel.size), h.r0b⟩
  · cases b1
    rename_i r hr'
    rw [h0] at hr'; cases hr'; exact a1
  · cases b4; exact a4
end

theorem ty_list : Tryz.prog.underlying 110 = some (.slice 2) := by kernel_rfl
theorem ty_bytes : (Tryz.prog.info? 2).map (·.bytes) = some 8 := by kernel_rfl
theorem ty_cells : ((Tryz.prog.info? 2).bind (·.zero)).map (·.cells) = some #[.int .i64 0] := by kernel_rfl
theorem ty_size : (Tryz.prog.info? 2).map (·.size) = some 1 := by kernel_rfl
theorem ty_i64 : ∃ i z, Tryz.prog.info? 2 = some i ∧ i.zero = some z ∧ i.size = 1 ∧ i.bytes = 8 ∧ z.cells = #[.int .i64 0] := by
  have h1 := ty_bytes
  have h2 := ty_cells
  have h3 := ty_size
  cases hi : Tryz.prog.info? 2 with
  | none => rw [hi] at h1; simp at h1
  | some i =>
    rw [hi] at h1 h2 h3
    simp at h1 h2 h3
    obtain ⟨z, h4, h5⟩ := h2
    exact ⟨i, z, rfl, h4, h3, h1, h5⟩
theorem o6_0 : (o6 0).guard = none ∧ (o6 0).op = .move (.tmp 3) ∧ (o6 0).dst = some 21 := ⟨by kernel_rfl, by kernel_rfl, by kernel_rfl⟩
theorem o6_1 : (o6 1).guard = none ∧ (o6 1).op = .move (.tmp 4) ∧ (o6 1).dst = some 22 := ⟨by kernel_rfl, by kernel_rfl, by kernel_rfl⟩
theorem o6_2 : (o6 2).guard = none ∧ (o6 2).op = .buildSlice 110 1 #[(0, .tmp 22)] ∧ (o6 2).dst = some 23 := ⟨by kernel_rfl, by kernel_rfl, by kernel_rfl⟩
theorem o6_3 : (o6 3).guard = none ∧ (o6 3).op = .call { callee := .builtin .append, args := #[.tmp 21, .tmp 23], argTypes := #[110, 110] } ∧ (o6 3).dst = some 24 := ⟨by kernel_rfl, by kernel_rfl, by kernel_rfl⟩
theorem o6_4 : (o6 4).guard = none ∧ (o6 4).op = .assign (.tmp 24) ∧ (o6 4).dst = some 3 := ⟨by kernel_rfl, by kernel_rfl, by kernel_rfl⟩

theorem put_get {a : Act} {d t : Nat} {x : Value} (h : d < a.tmps.size) : (a.put (some d) x).tmps[t]? = if t = d then some x else a.tmps[t]? := by
  simp only [Act.put]
  by_cases ht : t = d
  · subst ht; simp [h]
  · rw [if_neg ht, Array.getElem?_setIfInBounds_ne (fun e => ht e.symm)]
theorem put_size {a : Act} {d : Nat} {x : Value} : (a.put (some d) x).tmps.size = a.tmps.size := by simp [Act.put]
theorem put_df {a : Act} {d : Nat} {x : Value} : (a.put (some d) x).defers = a.defers := rfl
theorem eval_tmp {a : Act} {t : Nat} {x : Value} (h : a.tmps[t]? = some x) : a.eval (.tmp t) = x := by simp [Act.eval, h]

theorem wp_6 {x : Iv} {wc : World} {r0 : Nat} {ty : TypeId} {k : I64} {l : List I64} {v : Value} {a : Act} {w : World} {Q : Exit → Act → World → Prop} (h : TInv x wc r0 ty k l v a w) (hl : l.length ≤ 4000)
    (hq : ∀ v' a' w', TInv x wc r0 ty k (l ++ [k]) v' a' w' → Q .normal a' w') : KT6.wp Tryz.prog Q a w := by
  rw [KT6_eq]
  refine wp_region_lit ?_
  have hsz := h.sz
  refine Go.Great.wpList_runTo o6_0.1 (some 21) o6_0.2.2 v w (by simp only [execOp, o6_0.2.1, Sem.run_pure, eval_tmp h.t3]) ?_
  have s1 : (a.put (some 21) v).tmps.size = 26 := by rw [put_size, hsz]
  have e4 : (a.put (some 21) v).tmps[4]? = some (iv64 k) := by rw [put_get (by omega), if_neg (by decide)]; exact h.t4
  refine Go.Great.wpList_runTo o6_1.1 (some 22) o6_1.2.2 (iv64 k) w (by simp only [execOp, o6_1.2.1, Sem.run_pure, eval_tmp e4]) ?_
  have s2 : ((a.put (some 21) v).put (some 22) (iv64 k)).tmps.size = 26 := by rw [put_size, s1]
  have e22 : ((a.put (some 21) v).put (some 22) (iv64 k)).tmps[22]? = some (iv64 k) := by rw [put_get (by omega), if_pos rfl]
  obtain ⟨i, z, hi, hz, hs, hby, hzc⟩ := ty_i64
  refine Go.Great.wpList_runTo o6_2.1 (some 23) o6_2.2.2 (.slice (some ⟨w.heap.size, 0, none⟩) 1 1) (w.alloc (.cells #[iv64 k] 2 (0, 0))) ?_ ?_
  · have hb : (Instr.buildSlice 110 1 #[(0, iv64 k)]).run Tryz.prog w = .ok (.slice (some ⟨w.heap.size, 0, none⟩) 1 1) (w.alloc (.cells #[iv64 k] 2 (0, 0))) := by
      refine run_buildSlice w 110 2 1 #[(0, iv64 k)] #[iv64 k] i z ty_list hi hz (by rw [hs]; decide) (by rw [hs]; decide) ?_
      rw [hs, hzc]
      kernel_rfl
    have hp : (#[(0, Operand.tmp 22)].map fun (p : Nat × Operand) => (p.1, ((a.put (some 21) v).put (some 22) (iv64 k)).eval p.2)) = #[(0, iv64 k)] := by
      simp only [List.map_toArray, List.map_cons, List.map_nil, eval_tmp e22]
    simp only [execOp, o6_2.2.1, Sem.run_bind]
    rw [hp, hb]
    simp only [Result.andThen_ok, Sem.run_pure]
  generalize hw1 : w.alloc (.cells #[iv64 k] 2 (0, 0)) = w1
  have hw1s : w1.heap.size = w.heap.size + 1 := by rw [← hw1]; simp
  have hw1b : Below w.heap.size w w1 := by rw [← hw1]; exact (Below.refl _ _).alloc (Nat.le_refl _) _
  have hcell : w1.cell? ((⟨w.heap.size, 0, none⟩ : Addr).add 0) = some (iv64 k) := by
    rw [addr_add, cell_of_row w1 _ _ #[iv64 k] 2 _ (by rw [← hw1]; exact heap_alloc_new w _)]; rfl
  have hown1 := h.own.below hw1b
  have hB : wc.heap.size ≤ w1.heap.size := by rw [hw1s]; have := h.bel.size; omega
  obtain ⟨v', w2, hrun, hown2, hgb, hblk⟩ := append_one (P := Tryz.prog) wc.heap.size 110 (o6 3).type 2 i z ty_list hi hz hs hby hzc hown1 hB k ⟨w.heap.size, 0, none⟩ 1 hcell hl
  generalize ha2 : (a.put (some 21) v).put (some 22) (iv64 k) = a2 at *
  have s3 : (a2.put (some 23) (.slice (some ⟨w.heap.size, 0, none⟩) 1 1)).tmps.size = 26 := by rw [put_size, s2]
  have e21 : (a2.put (some 23) (.slice (some ⟨w.heap.size, 0, none⟩) 1 1)).tmps[21]? = some v := by
    rw [put_get (by omega), if_neg (by decide), ← ha2, put_get (by omega), if_neg (by decide), put_get (by omega), if_pos rfl]
  have e23 : (a2.put (some 23) (.slice (some ⟨w.heap.size, 0, none⟩) 1 1)).tmps[23]? = some (.slice (some ⟨w.heap.size, 0, none⟩) 1 1) := by rw [put_get (by omega), if_pos rfl]
  generalize ha3 : a2.put (some 23) (.slice (some ⟨w.heap.size, 0, none⟩) 1 1) = a3 at *
  refine Go.Great.wpList_runTo o6_3.1 (some 24) o6_3.2.2 v' w2 ?_ ?_
  · simp only [execOp, o6_3.2.1, resolve, invoke, builtin, Sem.run_bind, Sem.run_pure, Result.andThen_ok, List.map_toArray, List.map_cons, List.map_nil, eval_tmp e21, eval_tmp e23, hrun]
  have s4 : (a3.put (some 24) v').tmps.size = 26 := by rw [put_size, s3]
  have e24 : (a3.put (some 24) v').tmps[24]? = some v' := by rw [put_get (by omega), if_pos rfl]
  refine Go.Great.wpList_runTo o6_4.1 (some 3) o6_4.2.2 v' w2 (by simp only [execOp, o6_4.2.1, Sem.run_pure, eval_tmp e24]) ?_
  refine wpList_nil (hq v' _ w2 ⟨by rw [put_size, s4], ?_, ?_, ?_, ?_, ?_, hown2, ?_, ?_, h.r0b⟩)
  · rw [put_df, put_df, ← ha3, put_df, ← ha2, put_df, put_df]; exact h.df
  · rw [put_get (by omega), if_neg (by decide), put_get (by omega), if_neg (by decide), ← ha3, put_get (by omega), if_neg (by decide), ← ha2, put_get (by omega), if_neg (by decide), put_get (by omega), if_neg (by decide)]; exact h.t1
  · rw [put_get (by omega), if_neg (by decide), put_get (by omega), if_neg (by decide), ← ha3, put_get (by omega), if_neg (by decide), ← ha2, put_get (by omega), if_neg (by decide), put_get (by omega), if_neg (by decide)]; exact h.t4
  · rw [put_get (by omega), if_pos rfl]
  · have hr0 : r0 < w.heap.size := (Array.getElem?_eq_some_iff.1 h.row).1
    rw [hgb.block r0 (by omega) (fun e => h.ne e.symm), hw1b.block r0 hr0]; exact h.row
  · have hr0 : r0 < w.heap.size := (Array.getElem?_eq_some_iff.1 h.row).1
    rcases hblk with e | e
    · rw [e]; exact h.ne
    · rw [e]; intro e2; cases e2; omega
  · refine ⟨hgb.os.trans (hw1b.os.trans h.bel.os), hgb.tape.trans (hw1b.tape.trans h.bel.tape), hgb.output.trans (hw1b.output.trans h.bel.output), by have := hgb.size; omega, fun j hj => ?_⟩
    have hjs := h.bel.size
    rw [hgb.block j (by omega) ?_, hw1b.block j (by omega)]
    · exact h.bel.block j hj
    · intro e
      rcases h.own with ⟨rfl, _⟩ | ⟨g, cap, m, rfl, h2, _⟩
      · simp [Value.ownBlock] at e
      · simp [Value.ownBlock] at e; omega
end Go.Proofs.YtcfflflcbacapaaGreat.Ev
