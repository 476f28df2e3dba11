/-
  The walk of circleHull: its entry.
-/
import Derived.Test.YtcfflflcbacapaaGreatPG
namespace Go.Proofs.YtcfflflcbacapaaGreat.Ev
open Go Go.RowKit
set_option maxRecDepth 100000
set_option linter.unusedSimpArgs false
set_option linter.unusedVariables false

noncomputable def F_impl_circleHull (x : Iv) (t : I64) : Iv := bif !(F_impl_areAngles x) then F_impl_ring else hullF t (keepF x 1000 (k0 x)) (o0 x t)

theorem keepF_len (x : Iv) : ∀ (n : Nat) (k : I64), (keepF x n k).length ≤ n
  | 0, k => by simp [keepF]
  | n + 1, k => by
    have := keepF_len x n (.w .i64 (k.val + 1))
    simp only [keepF]
    cases decide (k.val ≤ (k1 x).val)
    · simp
    · cases F_impl_OverlapI (F_impl_TurnI k) x
      · simp only [cond_true, cond_false]; omega
      · simp only [cond_true, List.length_cons]; omega

theorem op_step {P : Program} {t : Tb P} {s : St} {o : Oper} {v : V} {m : Mem} (h : opk (A := V × Mem) t.T (callk t.T (fun _ => t.drw) t.Es t.Bs t.N t.d) s o (fun v m => some (v, m)) = some (v, m)) (hg : o.guard = none) (hf : s.fits o.dst = true)
    {w0 : World} {ρ : Nat → Option Nat} {a : Act} {w : World} {ops : Array Oper} {rest : List Oper} {Q : Exit → Act → World → Prop} (hr : Rel w0 ρ s a w) (hq : ∀ ρ' a' w', Ext ρ ρ' → Rel w0 ρ' (s.put o.dst v m) a' w' → wpList P ops Q rest a' w') : wpList P ops Q (o :: rest) a w := by
  refine wpList_plain hg fun K hK => ?_
  refine opk_sound (callk_ok (fun _ _ => t.draw_ok w0) t.d) h hr fun v' m' ρ' x w' e hv hm _ hk => ?_
  simp only [Option.some.injEq, Prod.mk.injEq] at hk
  obtain ⟨rfl, rfl⟩ := hk
  exact hK _ _ (hq ρ' _ w' e (hr.put e hv hf hm))

theorem own_len {B : Nat} {e : TypeId} {w : World} {v : Value} {l : List I64} (h : OwnI B e w v l) : ∃ a c, v = .slice a l.length c := by
  rcases h with ⟨rfl, rfl⟩ | ⟨g, cap, m, rfl, _⟩
  · exact ⟨_, _, rfl⟩
  · exact ⟨_, _, rfl⟩

theorem hull_does (x : Iv) (t : I64) {ρ : Nat → Option Nat} {xs : List Value} {w : World} (hv : VRs ρ [enc x, enc t] xs) :
    Does Tryz.prog 178 xs.toArray w fun v w' => (∀ ρ, VR ρ (enc (F_impl_circleHull x t)) v) ∧ Below w.heap.size w w' := by
  refine does_of_wp BH (vs := [enc x, enc t]) (show 2 ≤ BH.fn.ntmps by decide +kernel) hv rfl fun a hR => ?_
  have hres : ∀ (o : Iv) (tm : List (Nat × V)) (bs : List (Nat × List V)) (n : Nat), resv (P := Tryz.prog) TbH.T ⟨(4, .ptr 1 0) :: tm, 44, ⟨(1, cellsI o) :: bs, n, 0⟩⟩ BH.fn.results.toList = some [enc o] := by
    intro o tm bs n; kernel_rfl
  have fin : ∀ (o : Iv) (tm : List (Nat × V)) (bs : List (Nat × List V)) (n : Nat) (ρ' : Nat → Option Nat) (a' : Act) (w' : World), o = F_impl_circleHull x t → Rel w ρ' ⟨(4, .ptr 1 0) :: tm, 44, ⟨(1, cellsI o) :: bs, n, 0⟩⟩ a' w' →
      bodyPost Tryz.prog BH.fn (fun e w' => ∃ v, e = .returned v ∧ (∀ ρ, VR ρ (enc (F_impl_circleHull x t)) v) ∧ Below w.heap.size w w') .ret a' w' := by
    intro o tm bs n ρ' a' w' ho hr
    obtain ⟨z, z1, z2⟩ := results_run (P := Tryz.prog) hr (hres o tm bs n)
    subst ho
    exact ⟨hr.df, z, z1, z, rfl, fun ρ2 => z2.pf rfl, hr.mr.bel⟩
  rw [BH_eq]
  refine wp_seq (piece (q_0 x t) hR fun ρ1 a1 w1 e1 r1 => ?_)
  have q1 := q_1 x t
  cases hang : F_impl_areAngles x
  · rw [hang, Bool.not_false, cond_true] at q1
    refine wp_seq (piece q1 r1 fun ρ2 a2 w2 e2 r2 => ?_)
    refine fin F_impl_ring [] [] 2 ρ2 a2 w2 (by simp only [F_impl_circleHull, hang, Bool.not_false, cond_true]) ⟨fun t' u hu => r2.tm t' u ?_, r2.sz, r2.df, ⟨fun b cs hb => r2.mr.blk b cs ?_, r2.mr.inj, r2.mr.fresh, r2.mr.dom, r2.mr.own, r2.mr.bel, r2.mr.lon⟩⟩
    · simp only [s1H, lk_cons] at hu ⊢
      by_cases h4 : 4 = t'
      · subst h4; simpa using hu
      · rw [if_neg h4] at hu; simp [lk] at hu
    · simp only [s1H, lk_cons] at hb ⊢
      by_cases h4 : 1 = b
      · subst h4; simpa using hb
      · rw [if_neg h4] at hb; simp [lk] at hb
  rw [hang, Bool.not_true, cond_false] at q1
  refine wp_seq (piece q1 r1 fun ρ2 a2 w2 e2 r2 => ?_)
  show (H3.seq ((H4.seq (.block 0 (.loop HL))).seq H13)).wp _ _ _ _
  refine wp_seq (piece (q_3 x t) r2 fun ρ3 a3 w3 e3 r3 => ?_)
  show ((H4.seq (.block 0 (.loop HL))).seq H13).wp _ _ _ _
  refine wp_seq (wp_seq ?_)
  rw [H4_eq]
  refine wp_region_lit ?_
  refine op_step (q_4 x t) oA_0.1 (by rw [oA_0.2]; rfl) r3 fun ρ4 a4 w4 e4 r4 => ?_
  rw [oA_0.2] at r4
  obtain ⟨y21, p1, p2⟩ := r4.tm 21 (enc x) rfl
  have hb1 := r4.mr.bel
  refine wpList_plain oA_1.1 fun K hK => ?_
  have ecall : (execOp a4.eval (oA 1)).run Tryz.prog w4 = (callFunc 246 [y21].toArray).run Tryz.prog w4 := by
    simp only [execOp, oA_1.2.1, resolve, List.map_toArray, List.map_cons, List.map_nil, eval_tmp p1]
    rfl
  unfold Oper.wp
  rw [ecall]
  refine turns_does x (.cons p2 .nil) (oA 1) a4 K _ fun v w5 hvw => hK _ _ ?_
  obtain ⟨hown, hbel⟩ := hvw
  rw [oA_1.2.2]
  have hsz : a4.tmps.size = 44 := r4.sz
  have s1 : (a4.put (some 22) v).tmps.size = 44 := by rw [put_size, hsz]
  have f22 : (a4.put (some 22) v).tmps[22]? = some v := by rw [put_get (by omega), if_pos rfl]
  have hlen := keepF_len x 1000 (k0 x)
  generalize hL : keepF x 1000 (k0 x) = L at *
  obtain ⟨av, cv, hve⟩ := own_len hown
  refine Go.Great.wpList_runTo oA_2.1 (some 23) oA_2.2.2 (.int .i64 (L.length : Int)) w5 ?_ ?_
  · have hrun : (Builtin.len_ #[110] (oA 2).type #[v]).run Tryz.prog w5 = .ok (.int .i64 (L.length : Int)) w5 := by
      have h1 : (#[110] : Array TypeId)[0]? = some 110 := rfl
      have h2 : (#[v] : Array Value)[0]? = some (.slice av L.length cv) := by rw [hve]; rfl
      simp only [Builtin.len_, h1, h2, Sem.run_bind, run_underlying ty_list, Result.andThen_ok, Sem.run_pure, goInt]
    simp only [execOp, oA_2.2.1, resolve, invoke, builtin, pure_bind, List.map_toArray, List.map_cons, List.map_nil, eval_tmp f22, Sem.run_bind, Sem.run_pure, hrun, Result.andThen_ok]
  have s2 : ((a4.put (some 22) v).put (some 23) (.int .i64 (L.length : Int))).tmps.size = 44 := by rw [put_size, s1]
  refine Go.Great.wpList_runTo oA_3.1 (some 24) oA_3.2.2 (.int .i64 0) w5 (by simp only [execOp, oA_3.2.1, Act.eval, Sem.run_pure]) ?_
  have s3 : (((a4.put (some 22) v).put (some 23) (.int .i64 (L.length : Int))).put (some 24) (.int .i64 0)).tmps.size = 44 := by rw [put_size, s2]
  have g22 : (((a4.put (some 22) v).put (some 23) (.int .i64 (L.length : Int))).put (some 24) (.int .i64 0)).tmps[22]? = some v := by rw [put_get (by omega), if_neg (by decide), put_get (by omega), if_neg (by decide), put_get (by omega), if_pos rfl]
  have g23 : (((a4.put (some 22) v).put (some 23) (.int .i64 (L.length : Int))).put (some 24) (.int .i64 0)).tmps[23]? = some (.int .i64 (L.length : Int)) := by rw [put_get (by omega), if_neg (by decide), put_get (by omega), if_pos rfl]
  have g24 : (((a4.put (some 22) v).put (some 23) (.int .i64 (L.length : Int))).put (some 24) (.int .i64 0)).tmps[24]? = some (.int .i64 0) := by rw [put_get (by omega), if_pos rfl]
  have gold : ∀ t', t' ≠ 22 → t' ≠ 23 → t' ≠ 24 → (((a4.put (some 22) v).put (some 23) (.int .i64 (L.length : Int))).put (some 24) (.int .i64 0)).tmps[t']? = a4.tmps[t']? := fun t' h1 h2 h3 => by
    rw [put_get (by omega), if_neg h3, put_get (by omega), if_neg h2, put_get (by omega), if_neg h1]
  have gdf : (((a4.put (some 22) v).put (some 23) (.int .i64 (L.length : Int))).put (some 24) (.int .i64 0)).defers = [] := by rw [put_df, put_df, put_df]; exact r4.df
  generalize ((a4.put (some 22) v).put (some 23) (.int .i64 (L.length : Int))).put (some 24) (.int .i64 0) = a6 at *
  refine wpList_nil ?_
  show (Code.block 0 (.loop HL)).wp _ _ _ _
  have hnv : (Rng.w .i64 (L.length : Int)).val = L.length := wi (by omega) (by omega)
  -- the state in the loop
  have mk : ∀ (ρ5 : Nat → Option Nat) (tl : List (Nat × List V)) (LV : V), Ext ρ4 ρ5 → VR ρ5 LV v → (∀ b r, ρ5 b = some r → ρ4 b = some r ∨ (b = 3 ∧ w4.heap.size ≤ r ∧ r < w5.heap.size)) →
      (∀ b cs, lk tl b = some cs → ∃ r xs t, ρ5 b = some r ∧ w5.heap[r]? = some (.cells xs.toArray t (0, 0)) ∧ VRs ρ5 cs xs) → Rel w ρ5 (sH t (o0 x t) (.w .i64 (L.length : Int)) ⟨0, rfl⟩ tl LV []) a6 w5 := by
    intro ρ5 tl LV he hLV hnew htl
    have old : ∀ b r, ρ4 b = some r → r < w4.heap.size := r4.mr.dom
    refine ⟨fun t' u hu => ?_, s3, gdf, ⟨fun b cs hb => ?_, fun b b' r h1 h2 => ?_, fun b hb => ?_, fun b r hr => ?_, fun b r _ hr => ?_, hb1.trans (hbel.mono hb1.size), Nat.zero_le _⟩⟩
    · simp only [sH, List.nil_append, lk_cons] at hu
      by_cases h1 : 1 = t'
      · subst h1; simp at hu; subst hu
        obtain ⟨y, y1, y2⟩ := r4.tm 1 (.i64 t) rfl
        exact ⟨y, by rw [gold 1 (by decide) (by decide) (by decide)]; exact y1, y2.mono he⟩
      rw [if_neg h1] at hu
      by_cases h4 : 4 = t'
      · subst h4; simp at hu; subst hu
        obtain ⟨y, y1, y2⟩ := r4.tm 4 (.ptr 1 0) rfl
        exact ⟨y, by rw [gold 4 (by decide) (by decide) (by decide)]; exact y1, y2.mono he⟩
      rw [if_neg h4] at hu
      by_cases h5 : 5 = t'
      · subst h5; simp at hu; subst hu
        obtain ⟨y, y1, y2⟩ := r4.tm 5 (.ptr 2 0) rfl
        exact ⟨y, by rw [gold 5 (by decide) (by decide) (by decide)]; exact y1, y2.mono he⟩
      rw [if_neg h5] at hu
      by_cases h22 : 22 = t'
      · subst h22; simp at hu; subst hu; exact ⟨v, g22, hLV⟩
      rw [if_neg h22] at hu
      by_cases h23 : 23 = t'
      · subst h23; simp at hu; subst hu
        refine ⟨_, g23, ?_⟩
        have := VR.i64 (ρ := ρ5) (Rng.w .i64 (L.length : Int))
        rw [hnv] at this; exact this
      rw [if_neg h23] at hu
      by_cases h24 : 24 = t'
      · subst h24; simp at hu; subst hu; exact ⟨_, g24, .i64 _⟩
      rw [if_neg h24] at hu; simp [lk] at hu
    · have keep : ∀ b cs, lk (s3H x t (o0 x t)).mm.blks b = some cs → ∃ r xs t, ρ5 b = some r ∧ w5.heap[r]? = some (.cells xs.toArray t (0, 0)) ∧ VRs ρ5 cs xs := fun b cs hb => by
        obtain ⟨r, xs, t', h1, h2, h3⟩ := r4.mr.blk b cs hb
        exact ⟨r, xs, t', he _ _ h1, by rw [hbel.block r (old b r h1)]; exact h2, h3.mono he⟩
      simp only [sH, lk_cons] at hb
      by_cases h2 : 2 = b
      · subst h2; simp at hb; subst hb; exact keep 2 _ rfl
      rw [if_neg h2] at hb
      by_cases h1 : 1 = b
      · subst h1; simp at hb; subst hb; exact keep 1 _ rfl
      rw [if_neg h1] at hb
      exact htl b cs hb
    · rcases hnew b r h1 with h1 | h1 <;> rcases hnew b' r h2 with h2 | h2
      · exact r4.mr.inj b b' r h1 h2
      · have := old b r h1; omega
      · have := old b' r h2; omega
      · omega
    · have hb3 : 4 ≤ b := hb
      cases hr : ρ5 b with
      | none => rfl
      | some r =>
        rcases hnew b r hr with h1 | h1
        · have := r4.mr.fresh b (show 3 ≤ b by omega)
          rw [this] at h1; cases h1
        · omega
    · rcases hnew b r hr with h1 | h1
      · have h2 := old b r h1; have h3 := hbel.size; omega
      · exact h1.2.2
    · rcases hnew b r hr with h1 | h1
      · exact r4.mr.own b r (Nat.zero_le _) h1
      · have h2 := hb1.size; omega
  have run : ∀ (ρ5 : Nat → Option Nat) (bl : List Nat) (tl : List (Nat × List V)) (LV : V), HInv t w L v (.w .i64 (L.length : Int)) ⟨0, rfl⟩ (o0 x t) [] bl tl LV ρ5 a6 w5 →
      ((v = .slice none 0 0 ∧ LV = .nils) ∨ ∃ g cap, v = .slice (some ⟨g, 0, none⟩) L.length cap ∧ LV = .slc 3 0 L.length cap ∧ ρ5 3 = some g) →
      (Code.block 0 (.loop HL)).wp Tryz.prog (Exit.then (H13.wp Tryz.prog (bodyPost Tryz.prog BH.fn (fun e w' => ∃ v, e = .returned v ∧ (∀ ρ, VR ρ (enc (F_impl_circleHull x t)) v) ∧ Below w.heap.size w w'))) (bodyPost Tryz.prog BH.fn (fun e w' => ∃ v, e = .returned v ∧ (∀ ρ, VR ρ (enc (F_impl_circleHull x t)) v) ∧ Below w.heap.size w w'))) a6 w5 := by
    intro ρ5 bl tl LV hi hLV
    refine wp_block (wp_loop_rounds (L.length + 1) (hull_rounds hnv (by omega) (L.length + 1) ⟨0, rfl⟩ _ _ _ _ _ hi hLV (by decide) (by simp) (by omega) fun i' ρ6 a7 w7 hh => ?_))
    show H13.wp _ _ _ _
    refine piece (q_13 hh.fr) hh.rel fun ρ7 a8 w8 e8 r8 => ?_
    refine fin _ [] [] 4 ρ7 a8 w8 ?_ r8
    simp only [F_impl_circleHull, hang, Bool.not_true, cond_false, hL]
    rfl
  rcases hown with ⟨rfl, hLn⟩ | ⟨g, cap, m, rfl, h2, h3, h4⟩
  · refine run ρ4 [2, 1] [] .nils ⟨mk ρ4 [] .nils (Ext.refl _) .nils (fun b r h => .inl h) (fun b cs h => by simp [lk] at h), .nil, g22, .inl ⟨rfl, hLn, rfl⟩⟩ (.inl ⟨rfl, rfl⟩)
  · have hgs : g < w5.heap.size := (Array.getElem?_eq_some_iff.1 h3).1
    have hn3 : ρ4 3 = none := r4.mr.fresh 3 (show 3 ≤ 3 by omega)
    have hE : Ext ρ4 (fun b => if b = 3 then some g else ρ4 b) := fun b r hr => by
      by_cases hb : b = 3
      · subst hb; rw [hn3] at hr; cases hr
      · simp [hb, hr]
    have h33 : (fun b => if b = 3 then some g else ρ4 b : Nat → Option Nat) 3 = some g := by simp
    refine run _ [2, 1, 3] [(3, (L ++ m).map V.i64)] (.slc 3 0 L.length cap) ⟨mk _ _ _ hE (.slc h33) (fun b r hr => ?_) (fun b cs hb => ?_), .slc _ _ _, g22, .inr ⟨g, cap, m, rfl, h33, rfl⟩⟩ (.inr ⟨g, cap, rfl, rfl, h33⟩)
    · split at hr
      · cases hr; exact .inr ⟨by assumption, h2, hgs⟩
      · exact .inl hr
    · simp only [lk_cons] at hb
      by_cases h : 3 = b
      · subst h; simp at hb; subst hb
        exact ⟨g, (L ++ m).map iv64, _, h33, h3, by simpa using vrs_mk (L ++ m)⟩
      · rw [if_neg h] at hb; simp [lk] at hb

noncomputable def E_impl_circleHull : Ent Tryz.prog where
  id := 178
  g := fun _ _ => true
  fn := fun vs _ => match vs with
    | [x, y] => match (dec x : Option Iv), (dec y : Option I64) with
      | some x, some y => some (enc (F_impl_circleHull x y))
      | _, _ => none
    | _ => none
  ok := fun vs m v _ hf w0 ρ xs w hv hm => by
    split at hf <;> try (cases hf; done)
    split at hf <;> try (cases hf; done)
    rename_i x y hx hy
    cases hf
    have e1 := Enc.dec_enc _ _ hx
    have e2 := Enc.dec_enc _ _ hy
    subst e1; subst e2
    exact (hull_does x y hv).mono fun v w' h => ⟨h.1 ρ, h.2⟩
end Go.Proofs.YtcfflflcbacapaaGreat.Ev
