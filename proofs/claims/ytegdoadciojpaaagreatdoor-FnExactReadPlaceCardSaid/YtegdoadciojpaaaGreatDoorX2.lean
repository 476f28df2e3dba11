/-
  Reading places, the specification's side: three words (the walk).
-/
import Derived.Test.YtegdoadciojpaaaGreatDoorQ2
import Derived.Deep.RegionWith
namespace Go.Proofs.YtegdoadciojpaaaGreatDoor.Rt
open Go Go.RowKit Go.Lib Go.Proofs.YtegdoadciojpaaaGreatDoor.Rq Go.Proofs.YtegdoadciojpaaaGreatDoor.Rp Go.Proofs.YtegdoadciojpaaaGreatDoor.Pr Go.Proofs.YtegdoadciojpaaaGreatDoorW.PrintWords Go.Proofs.YtegdoadciojpaaaGreatDoorW.PrintLast Go.Proofs.YtegdoadciojpaaaGreatDoorW.PrintMore
set_option linter.unusedVariables false
set_option linter.unusedSimpArgs false
theorem cell_ltA {w : World} {a : Addr} {v : Value} (h : w.cell? a = some v) : a.block < w.heap.size := by
  rcases Nat.lt_or_ge a.block w.heap.size with k | k
  · exact k
  · simp [World.cell?, Array.getElem?_eq_none k] at h
theorem cell_bel {w w' : World} {a : Addr} {v : Value} (h : w.cell? a = some v) (hb : Below w.heap.size w w') : w'.cell? a = some v := by
  have hl := cell_ltA h
  have := hb.block a.block hl
  unfold World.cell? at h ⊢
  rw [this]; exact h
/-- What is known behind the first statement: the result's block, the point's block, the third word. -/
structure Fx (w W : World) (gR gQ : Nat) (p1 p2 : Int) (a2 : Addr) (c : ByteArray) : Prop where
  b : Below w.heap.size w W
  r : W.heap[gR]? = some (.cells #[.int .i64 0, .int .i64 0, .int .i64 0] 25 (0, 0))
  q : W.heap[gQ]? = some (.cells #[.int .i64 p1, .int .i64 p2] 23 (0, 0))
  l : w.heap.size ≤ gQ
  n : gR ≠ gQ
  c : W.cell? a2 = some (.string c)
theorem fxA {w w2 : World} {gR : Nat} {p1 p2 : Int} {a2 : Addr} {c : ByteArray} (hb : Below w.heap.size w w2) (hr : w2.heap[gR]? = some (.cells #[.int .i64 0, .int .i64 0, .int .i64 0] 25 (0, 0))) (hc : w2.cell? a2 = some (.string c)) :
    Fx w (w2.alloc (.cells #[.int .i64 p1, .int .i64 p2] 23)) gR w2.heap.size p1 p2 a2 c :=
  ⟨below_alloc hb _, by rw [← hr]; exact Below.heap_alloc _ _ _ (blk_lt hr), by simpa using heap_alloc_new w2 _, hb.size, Nat.ne_of_lt (blk_lt hr), by rw [World.cell?_alloc_lt _ _ _ (cell_ltA hc)]; exact hc⟩
theorem fxB {w w2 : World} {gR q : Nat} {p1 p2 : Int} {a2 : Addr} {c : ByteArray} (hb : Below w.heap.size w w2) (hr : w2.heap[gR]? = some (.cells #[.int .i64 0, .int .i64 0, .int .i64 0] 25 (0, 0))) (hc : w2.cell? a2 = some (.string c))
    (hq : w2.heap[q]? = some (.cells #[.int .i64 0, .int .i64 0] 23 (0, 0))) (hl : w.heap.size ≤ q) (hn : gR ≠ q) (ha : q ≠ a2.block) :
    Fx w ((w2.setCell ⟨q, 0, none⟩ (.int .i64 p1)).setCell ⟨q, 1, none⟩ (.int .i64 p2)) gR q p1 p2 a2 c :=
  ⟨below_set (below_set hb hl) hl, blk_far (blk_far hr hn _) hn _, blk_put (cs := #[.int .i64 p1, .int .i64 0]) (blk_put (cs := #[.int .i64 0, .int .i64 0]) hq 0 _ rfl) 1 _ rfl, hl, hn,
    by
      have e : ∀ (W : World) (o : Nat) (v : Value), (W.setCell ⟨q, o, none⟩ v).cell? a2 = W.cell? a2 := fun W o v => World.cell?_setCell_other _ _ _ _ (fun h => ha (by rw [← h]))
      rw [e, e]; exact hc⟩
set_option maxHeartbeats 8000000 in
set_option maxRecDepth 100000 in
theorem rplace3 (k : Nat) (s a b c : ByteArray) (hsp : spec_l01Split.f k s 32 = some [a, b, c]) (p1 p2 : Int) (o1 : Bool) (h1 : spec_ReadPoint.f k (a ++ ⟨#[32]⟩ ++ b) = some (p1, p2, o1)) (hh : Int) (o2 : Bool) (h2 : spec_ReadDecimal.f k c = some (hh, o2))
    (o3 : Bool) (h3 : spec_l14Ok.f p1 p2 hh = some (o3, p1, p2, hh)) (hz : a.size + 1 + b.size ≤ 2000000) (w : World) :
    Calls Tryz.prog 4 #[.string s] w fun e w' => e = .returned (.tuple #[bif o1 && (o2 && o3) then .agg #[.int .i64 p1, .int .i64 p2, .int .i64 hh] else .agg #[.int .i64 0, .int .i64 0, .int .i64 0], .bool (o1 && (o2 && o3))]) ∧ Below w.heap.size w w' := by
  have hu23 := Tryz.underlying23
  have hu25 := Tryz.underlying25
  have HB := Aside0.mk (Below.refl w.heap.size w)
  replace hsp := Aside0.mk hsp
  replace h1 := Aside0.mk h1
  replace h2 := Aside0.mk h2
  replace h3 := Aside0.mk h3
  have z1 : a.size + 1 ≤ 9223372036854775807 := by omega
  have z2 : a.size + 1 + b.size ≤ 9223372036854775807 := by omega
  go_enter Tryz.func4, Tryz.ntmps4
  go_wp2_with (first
    | ((with_reducible refine gate_dst (N := 2) rfl ?_); refine box_event ?hg (N := 2) ?hd (cs := #[.int .i64 0, .int .i64 0, .int .i64 0]) (t := 25) ?hr ?_; (case hd => rfl); (case hg => rfl); (case hr => first | (go_simp; done) | (go_simp; rfl)); intro gR hg wR hbox hb; have n0_ := Aside0.mk (below_step HB.out hb); have n1_ := Aside0.mk hbox; have n2_ := Aside0.mk (by rw [hg]; exact HB.out.size : w.heap.size ≤ gR); clear HB; have HB := n0_; have BR := n1_; have GR := n2_; clear n0_ n1_ n2_; clear hb hbox hg)
    | ((with_reducible refine gate_callee (f := 7) rfl ?_); refine goesL_ (some 11) rfl rfl Tryz.func7 (by kernel_rfl) rfl #[.string s, .int .u8 32] rfl (by (try simp only [List.map_toArray, List.map_cons, List.map_nil]); first | done | rfl | (simp only [List.length_drop, List.length_take]; rfl)) ?_; (with_reducible refine (spec_l01Split.calls k s 32 _ _ hsp.out).mono ?_); rintro e w1 ⟨v1, rfl, ho0, hb⟩; refine ⟨_, rfl, ?_⟩;
       have n0_ := Aside0.mk (blk_below (g := gR) (o := .cells #[.int .i64 0, .int .i64 0, .int .i64 0] 25 (0, 0)) BR.out hb); have n1_ := Aside0.mk (below_step HB.out hb); clear BR; clear HB; have BR := n0_; have HB := n1_; clear n0_ n1_; clear hb; obtain ⟨A, cc, ev⟩ := Kd.R_slice ho0; subst ev; obtain ⟨ad, e0, hx0⟩ := Kd.at_string (Kd.R_reads' ho0).2.2 0 (by omega) (by show (0 : Int) < 3; omega); subst e0; obtain ⟨ad1, e1, hx1⟩ := Kd.at_string (Kd.R_reads' ho0).2.2 1 (by omega) (by show (1 : Int) < 3; omega); obtain rfl : ad = ad1 := Option.some.inj e1; obtain ⟨ad2, e2, hx2⟩ := Kd.at_string (Kd.R_reads' ho0).2.2 2 (by omega) (by show (2 : Int) < 3; omega); obtain rfl : ad = ad2 := Option.some.inj e2))
  have hR := blk_lt BR.out
  simp only [show Int.toNat 0 = 0 from rfl, show Int.toNat 1 = 1 from rfl, show Int.toNat 2 = 2 from rfl, show rdOf ByteArray.empty [a, b, c] 0 = a from rfl, show rdOf ByteArray.empty [a, b, c] 1 = b from rfl, show rdOf ByteArray.empty [a, b, c] 2 = c from rfl] at hx0 hx1 hx2
  rw [Addr.add_zero'] at hx0
  simp only [Nat.reduceMul, Nat.reduceEqDiff, Go.Addr.add, ↓reduceIte] at hx1 hx2
  rename_i Qx Kx aKx
  have hK : ∀ (W : World) (gQ : Nat), Fx w W gR gQ p1 p2 ⟨ad.block, ad.off + 2, none⟩ c → Kx { tmps := #[.string s, undef, .pointer (some ⟨gR, 0, none⟩), .bool false, .slice (some ad) 3 cc, .pointer (some ⟨gQ, 0, none⟩), .bool o1, undef, undef, undef, .string s, .slice (some ad) 3 cc, .slice (some ad) 3 cc, .int .i64 3, .bool false, undef, .tuple #[.agg #[.int .i64 p1, .int .i64 p2], .bool o1], .slice (some ad) 3 cc, .pointer (some ad), .string a, .string (a ++ ⟨#[32]⟩), .slice (some ad) 3 cc, .pointer (some ⟨ad.block, ad.off + 1, none⟩), .string b, .string (a ++ ⟨#[32]⟩ ++ b), .tuple #[.agg #[.int .i64 p1, .int .i64 p2], .bool o1], .agg #[.int .i64 p1, .int .i64 p2], .bool o1, undef, undef, undef, undef, undef, undef, undef, undef, undef, undef, undef, undef, undef, undef, undef, undef, undef, undef, undef, undef, undef, undef], defers := [] } W := by
    intro W gQ hF
    obtain ⟨bW, rW, qW, lW, nW, cW⟩ := hF
    refine aKx _ _ ?_
    clear aKx hx0 hx1 hx2 BR HB
    have HB := Aside0.mk bW
    have BR := Aside0.mk rW
    have BQ := Aside0.mk qW
    have NQ := Aside0.mk nW
    have LQ := Aside0.mk lW
    clear bW rW qW nW lW
    go_wp2_with (first
      | (go_at_call 9; refine (spec_ReadDecimal.calls k c hh o2 _ h2.out).mono ?_; rintro e w5 ⟨rfl, hb⟩; have n0_ := Aside0.mk (blk_below (g := gR) (o := .cells #[.int .i64 0, .int .i64 0, .int .i64 0] 25 (0, 0)) (by (with_reducible repeat (first | refine blk_drewN ?_ _ | refine blk_drew ?_ | refine blk_alloc ?_ _)); exact BR.out) hb); have n1_ := Aside0.mk (blk_below (g := gQ) (o := .cells #[.int .i64 p1, .int .i64 p2] 23 (0, 0)) (by (with_reducible repeat (first | refine blk_drewN ?_ _ | refine blk_drew ?_ | refine blk_alloc ?_ _)); exact BQ.out) hb); have n2_ := Aside0.mk (below_step (by repeat (first | (with_reducible first | exact HB.out | apply below_alloc | apply pw_below_drewN | apply below_drew1) | exact HB.out)) hb); clear BR BQ HB hb; have BR := n0_; have BQ := n1_; have HB := n2_; clear n0_ n1_ n2_; have hq0 : w5.cell? ⟨gQ, 0, none⟩ = some (.int .i64 p1) := (blk_cell BQ.out 0).trans rfl; have hq1 : w5.cell? ⟨gQ, 1, none⟩ = some (.int .i64 p2) := (blk_cell BQ.out 1).trans rfl)
      | ((with_reducible refine gate_dst (N := 9) rfl ?_); refine box_event ?hg (N := 9) ?hd (cs := #[.int .i64 0, .int .i64 0, .int .i64 0]) (t := 25) ?hr ?_; (case hd => rfl); (case hg => rfl); (case hr => first | (go_simp; done) | (go_simp; rfl)); intro gP hg wP hbox hb; have n0_ := Aside0.mk (blk_below (g := gR) (o := .cells #[.int .i64 0, .int .i64 0, .int .i64 0] 25 (0, 0)) (by (with_reducible repeat (first | refine blk_drewN ?_ _ | refine blk_drew ?_ | refine blk_alloc ?_ _)); exact BR.out) hb); have n2_ := Aside0.mk (below_step (by repeat (first | (with_reducible first | exact HB.out | apply below_alloc | apply pw_below_drewN | apply below_drew1) | exact HB.out)) hb); have n3_ := Aside0.mk (by rw [hg]; exact (below_size (by repeat (first | (with_reducible first | exact HB.out | apply below_alloc | apply pw_below_drewN | apply below_drew1) | exact HB.out))) : w.heap.size ≤ gP); have n4_ := Aside0.mk (by rw [hg]; exact Nat.ne_of_lt (blk_lt (g := gR) (o := .cells #[.int .i64 0, .int .i64 0, .int .i64 0] 25 (0, 0)) (by (with_reducible repeat (first | refine blk_drewN ?_ _ | refine blk_drew ?_ | refine blk_alloc ?_ _)); exact BR.out)) : gR ≠ gP); have n5_ := Aside0.mk hbox; clear BR HB hb hbox hg; have BR := n0_; have HB := n2_; have LP := n3_; have NP := n4_; have BP := n5_; clear n0_ n2_ n3_ n4_ n5_; have hp0 : wP.cell? ⟨gP, 0, none⟩ = some (.int .i64 0) := (blk_cell BP.out 0).trans rfl; have hp1 : wP.cell? ⟨gP, 1, none⟩ = some (.int .i64 0) := (blk_cell BP.out 1).trans rfl; have hp2 : wP.cell? ⟨gP, 2, none⟩ = some (.int .i64 0) := (blk_cell BP.out 2).trans rfl; have fp0 := blk_frozen BP.out 0; have fp1 := blk_frozen BP.out 1; have fp2 := blk_frozen BP.out 2; have hr0 : wP.cell? ⟨gR, 0, none⟩ = some (.int .i64 0) := (blk_cell BR.out 0).trans rfl; have hr1 : wP.cell? ⟨gR, 1, none⟩ = some (.int .i64 0) := (blk_cell BR.out 1).trans rfl; have hr2 : wP.cell? ⟨gR, 2, none⟩ = some (.int .i64 0) := (blk_cell BR.out 2).trans rfl; have fr0 := blk_frozen BR.out 0; have fr1 := blk_frozen BR.out 1; have fr2 := blk_frozen BR.out 2; have np1 := NP.out; have np2 := NP.out.symm)
      | (go_at_call 10; refine (spec_l14Ok.calls gP p1 p2 hh o3 p1 p2 hh w _ ⟨by (with_reducible repeat (first | refine blk_drewN ?_ _ | refine blk_drew ?_ | refine blk_alloc ?_ _)); refine blk_put (cs := #[.int .i64 p1, .int .i64 p2, .int .i64 0]) ?_ 2 _ rfl; refine blk_put (cs := #[.int .i64 p1, .int .i64 0, .int .i64 0]) ?_ 1 _ rfl; refine blk_put (cs := #[.int .i64 0, .int .i64 0, .int .i64 0]) ?_ 0 _ rfl; exact BP.out, LP.out⟩ (by repeat (first | (with_reducible first | exact HB.out | apply below_alloc | apply pw_below_drewN | apply below_drew1 | refine below_set ?_ LP.out) | exact HB.out)) h3.out).mono ?_; rintro e w7 ⟨rfl, hi, hb, hk⟩; have n0_ := Aside0.mk hi.1; have n1_ := Aside0.mk (KeepBut.blk hk (g' := gR) (o := .cells #[.int .i64 0, .int .i64 0, .int .i64 0] 25 (0, 0)) (by (with_reducible repeat (first | refine blk_drewN ?_ _ | refine blk_drew ?_ | refine blk_alloc ?_ _)); refine blk_far ?_ NP.out _; refine blk_far ?_ NP.out _; refine blk_far ?_ NP.out _; exact BR.out) NP.out (by simp)); have n2_ := Aside0.mk hb; clear BP BR HB hi hb hk; have BP := n0_; have BR := n1_; have HB := n2_; clear n0_ n1_ n2_; have hs0 : w7.cell? ⟨gP, 0, none⟩ = some (.int .i64 p1) := (blk_cell BP.out 0).trans rfl; have hs1 : w7.cell? ⟨gP, 1, none⟩ = some (.int .i64 p2) := (blk_cell BP.out 1).trans rfl; have hs2 : w7.cell? ⟨gP, 2, none⟩ = some (.int .i64 hh) := (blk_cell BP.out 2).trans rfl; have ht0 : w7.cell? ⟨gR, 0, none⟩ = some (.int .i64 0) := (blk_cell BR.out 0).trans rfl; have ht1 : w7.cell? ⟨gR, 1, none⟩ = some (.int .i64 0) := (blk_cell BR.out 1).trans rfl; have ht2 : w7.cell? ⟨gR, 2, none⟩ = some (.int .i64 0) := (blk_cell BR.out 2).trans rfl; have ft0 := blk_frozen BR.out 0; have ft1 := blk_frozen BR.out 1; have ft2 := blk_frozen BR.out 2))
    · refine bodyPost_ret (results_ct rfl _ _ gR 25 #[.int .i64 0, .int .i64 0, .int .i64 0] (0, 0) _ rfl (by (with_reducible repeat (first | refine blk_drewN ?_ _ | refine blk_drew ?_ | refine blk_alloc ?_ _)); refine blk_put (cs := #[.int .i64 0, .int .i64 0, .int .i64 0]) ?_ 2 _ rfl; refine blk_put (cs := #[.int .i64 0, .int .i64 0, .int .i64 0]) ?_ 1 _ rfl; refine blk_put (cs := #[.int .i64 0, .int .i64 0, .int .i64 0]) ?_ 0 _ rfl; (repeat (refine blk_far ?_ NP.out _)); exact BR.out) Tryz.underlying25 rfl (by kernel_rfl)) rfl ?_
      exact ⟨(by cases o1 <;> cases o2 <;> cases o3 <;> first | rfl | contradiction | (exfalso; simp at *; done)), (by repeat (first | (with_reducible first | exact HB.out | apply below_alloc | apply pw_below_drewN | apply below_drew1 | refine below_set ?_ GR.out | refine below_set ?_ LP.out) | exact HB.out))⟩
    · refine bodyPost_ret (results_ct rfl _ _ gR 25 #[.int .i64 p1, .int .i64 p2, .int .i64 hh] (0, 0) _ rfl (by (with_reducible repeat (first | refine blk_drewN ?_ _ | refine blk_drew ?_ | refine blk_alloc ?_ _)); refine blk_put (cs := #[.int .i64 p1, .int .i64 p2, .int .i64 0]) ?_ 2 _ rfl; refine blk_put (cs := #[.int .i64 p1, .int .i64 0, .int .i64 0]) ?_ 1 _ rfl; refine blk_put (cs := #[.int .i64 0, .int .i64 0, .int .i64 0]) ?_ 0 _ rfl; (repeat (refine blk_far ?_ NP.out _)); exact BR.out) Tryz.underlying25 rfl (by kernel_rfl)) rfl ?_
      exact ⟨(by cases o1 <;> cases o2 <;> cases o3 <;> first | rfl | contradiction | (exfalso; simp at *; done)), (by repeat (first | (with_reducible first | exact HB.out | apply below_alloc | apply pw_below_drewN | apply below_drew1 | refine below_set ?_ GR.out | refine below_set ?_ LP.out) | exact HB.out))⟩
    · refine bodyPost_ret (results_ct rfl _ _ gR 25 #[.int .i64 0, .int .i64 0, .int .i64 0] (0, 0) _ rfl (by (with_reducible repeat (first | refine blk_drewN ?_ _ | refine blk_drew ?_ | refine blk_alloc ?_ _)); refine blk_put (cs := #[.int .i64 0, .int .i64 0, .int .i64 0]) ?_ 2 _ rfl; refine blk_put (cs := #[.int .i64 0, .int .i64 0, .int .i64 0]) ?_ 1 _ rfl; refine blk_put (cs := #[.int .i64 0, .int .i64 0, .int .i64 0]) ?_ 0 _ rfl; (repeat (refine blk_far ?_ NP.out _)); exact BR.out) Tryz.underlying25 rfl (by kernel_rfl)) rfl ?_
      exact ⟨(by cases o1 <;> cases o2 <;> cases o3 <;> first | rfl | contradiction | (exfalso; simp at *; done)), (by repeat (first | (with_reducible first | exact HB.out | apply below_alloc | apply pw_below_drewN | apply below_drew1 | refine below_set ?_ GR.out | refine below_set ?_ LP.out) | exact HB.out))⟩
    · refine bodyPost_ret (results_ct rfl _ _ gR 25 #[.int .i64 0, .int .i64 0, .int .i64 0] (0, 0) _ rfl (by (with_reducible repeat (first | refine blk_drewN ?_ _ | refine blk_drew ?_ | refine blk_alloc ?_ _)); refine blk_put (cs := #[.int .i64 0, .int .i64 0, .int .i64 0]) ?_ 2 _ rfl; refine blk_put (cs := #[.int .i64 0, .int .i64 0, .int .i64 0]) ?_ 1 _ rfl; refine blk_put (cs := #[.int .i64 0, .int .i64 0, .int .i64 0]) ?_ 0 _ rfl; (repeat (refine blk_far ?_ NP.out _)); exact BR.out) Tryz.underlying25 rfl (by kernel_rfl)) rfl ?_
      exact ⟨(by cases o1 <;> cases o2 <;> cases o3 <;> first | rfl | contradiction | (exfalso; simp at *; done)), (by repeat (first | (with_reducible first | exact HB.out | apply below_alloc | apply pw_below_drewN | apply below_drew1 | refine below_set ?_ GR.out | refine below_set ?_ LP.out) | exact HB.out))⟩
  have xa0 := World.cell?_alloc_lt w1 (.cells #[.int .i64 0, .int .i64 0] 23) _ (cell_ltA hx0)
  have xa1 := World.cell?_alloc_lt w1 (.cells #[.int .i64 0, .int .i64 0] 23) _ (cell_ltA hx1)
  have xa2 := World.cell?_alloc_lt w1 (.cells #[.int .i64 0, .int .i64 0] 23) _ (cell_ltA hx2)
  rw [hx0] at xa0
  rw [hx1] at xa1
  rw [hx2] at xa2
  have hA : ad.block < w1.heap.size := cell_ltA hx0
  have hAx := Aside0.mk hA
  have hx2 := Aside0.mk hx2
  have xa2 := Aside0.mk xa2
  clear hA
  go_region_with (go_at_call 8; refine (spec_ReadPoint.calls k _ _ _ _ _ h1.out).mono ?_; rintro e w2 ⟨rfl, hb⟩; have hB2 := Aside0.mk (below_step (show Below w.heap.size w _ from by repeat (first | (with_reducible first | exact HB.out | apply below_alloc | apply pw_below_drewN | apply below_drew1) | exact HB.out)) hb); have bR2 := Aside0.mk (blk_below (g := gR) (o := .cells #[.int .i64 0, .int .i64 0, .int .i64 0] 25 (0, 0)) (by (with_reducible repeat (first | refine blk_drewN ?_ _ | refine blk_drew ?_ | refine blk_alloc ?_ _)); exact BR.out) hb); have c2 := Aside0.mk (cell_bel (a := ⟨ad.block, ad.off + 2, none⟩) (v := .string c) (by first | exact hx2.out | exact xa2.out) hb); (first | (have hq := blk_below (g := w1.heap.size) (o := .cells #[.int .i64 0, .int .i64 0] 23 (0, 0)) (by first | exact heap_alloc_new _ _ | (simpa using heap_alloc_new _ _)) hb; have q0 : w2.cell? ⟨w1.heap.size, 0, none⟩ = some (.int .i64 0) := (blk_cell hq 0).trans rfl; have q1 : w2.cell? ⟨w1.heap.size, 1, none⟩ = some (.int .i64 0) := (blk_cell hq 1).trans rfl; have f0 := blk_frozen hq 0; have f1 := blk_frozen hq 1; have hq := Aside0.mk hq) | skip))
  all_goals (first | exact hK _ _ (fxA hB2.out bR2.out c2.out) | exact hK _ _ (fxB hB2.out bR2.out c2.out hq.out HB.out.size (Nat.ne_of_lt hR) (Nat.ne_of_gt hAx.out)))
end Go.Proofs.YtegdoadciojpaaaGreatDoor.Rt
