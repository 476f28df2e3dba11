/-
  Reading places, the specification's side: not three words (the walk).
-/
import Derived.Test.YtegdoadciojpaaaGreatDoorQ2
namespace Go.Proofs.YtegdoadciojpaaaGreatDoor.Rt
open Go Go.RowKit Go.Lib Go.Proofs.YtegdoadciojpaaaGreatDoor.Rq Go.Proofs.YtegdoadciojpaaaGreatDoor.Rp Go.Proofs.YtegdoadciojpaaaGreatDoor.Pr Go.Proofs.YtegdoadciojpaaaGreatDoorW.PrintWords Go.Proofs.YtegdoadciojpaaaGreatDoorW.PrintLast Go.Proofs.YtegdoadciojpaaaGreatDoorW.PrintMore
set_option linter.unusedVariables false
set_option linter.unusedSimpArgs false
set_option maxHeartbeats 8000000 in
set_option maxRecDepth 100000 in
theorem rplaceN (k : Nat) (s : ByteArray) (L : List ByteArray) (hsp : spec_l01Split.f k s 32 = some L) (hl : L.length ≠ 3) (w : World) :
    Calls Tryz.prog 4 #[.string s] w fun e w' => e = .returned (.tuple #[.agg #[.int .i64 0, .int .i64 0, .int .i64 0], .bool false]) ∧ Below w.heap.size w w' := by
  have hu23 := Tryz.underlying23
  have hu25 := Tryz.underlying25
  have HB := Aside0.mk (Below.refl w.heap.size w)
  replace hsp := Aside0.mk hsp
  have hl1 : ((L.length : Int) == 3) = false := beq_eq_false_iff_ne.mpr (by omega)
  have hl2 : ((L.length : Int) != 3) = true := bne_iff_ne.mpr (by omega)
  have hl3 : ((L.length : Int) = 3) = False := eq_false (by omega)
  clear hl
  go_enter Tryz.func4, Tryz.ntmps4
  go_wp2_with (first
    | ((with_reducible refine gate_dst (N := 2) rfl ?_); refine box_event ?hg (N := 2) ?hd (cs := #[.int .i64 0, .int .i64 0, .int .i64 0]) (t := 25) ?hr ?_; (case hd => rfl); (case hg => rfl); (case hr => first | (go_simp; done) | (go_simp; rfl)); intro gR hg wR hbox hb; have n0_ := Aside0.mk (below_step HB.out hb); have n1_ := Aside0.mk hbox; have n2_ := Aside0.mk (by rw [hg]; exact HB.out.size : w.heap.size ≤ gR); clear HB; have HB := n0_; have BR := n1_; have GR := n2_; clear n0_ n1_ n2_; clear hb hbox hg)
    | ((with_reducible refine gate_callee (f := 7) rfl ?_); refine goesL_ (some 11) rfl rfl Tryz.func7 (by kernel_rfl) rfl #[.string s, .int .u8 32] rfl (by (try simp only [List.map_toArray, List.map_cons, List.map_nil]); first | done | rfl | (simp only [List.length_drop, List.length_take]; rfl)) ?_; (with_reducible refine (spec_l01Split.calls k s 32 _ _ hsp.out).mono ?_); rintro e w1 ⟨v1, rfl, ho0, hb⟩; refine ⟨_, rfl, ?_⟩;
       have n0_ := Aside0.mk (blk_below (g := gR) (o := .cells #[.int .i64 0, .int .i64 0, .int .i64 0] 25 (0, 0)) BR.out hb); have n1_ := Aside0.mk (below_step HB.out hb); clear BR; clear HB; have BR := n0_; have HB := n1_; clear n0_ n1_; clear hb; obtain ⟨A, cc, ev⟩ := Kd.R_slice ho0; subst ev; clear ho0; have ht0 : w1.cell? ⟨gR, 0, none⟩ = some (.int .i64 0) := (blk_cell BR.out 0).trans rfl; have ht1 : w1.cell? ⟨gR, 1, none⟩ = some (.int .i64 0) := (blk_cell BR.out 1).trans rfl; have ht2 : w1.cell? ⟨gR, 2, none⟩ = some (.int .i64 0) := (blk_cell BR.out 2).trans rfl; have ft0 := blk_frozen BR.out 0; have ft1 := blk_frozen BR.out 1; have ft2 := blk_frozen BR.out 2))
  refine bodyPost_ret (results_ct rfl _ _ gR 25 #[.int .i64 0, .int .i64 0, .int .i64 0] (0, 0) _ rfl (by (with_reducible repeat (first | refine blk_drewN ?_ _ | refine blk_drew ?_ | refine blk_alloc ?_ _)); refine blk_put (cs := #[.int .i64 0, .int .i64 0, .int .i64 0]) ?_ 2 _ rfl; refine blk_put (cs := #[.int .i64 0, .int .i64 0, .int .i64 0]) ?_ 1 _ rfl; refine blk_put (cs := #[.int .i64 0, .int .i64 0, .int .i64 0]) ?_ 0 _ rfl; exact BR.out) Tryz.underlying25 rfl (by kernel_rfl)) rfl ?_
  exact ⟨rfl, (by repeat (first | (with_reducible first | exact HB.out | apply below_alloc | apply pw_below_drewN | apply below_drew1 | refine below_set ?_ GR.out) | exact HB.out))⟩
end Go.Proofs.YtegdoadciojpaaaGreatDoor.Rt
