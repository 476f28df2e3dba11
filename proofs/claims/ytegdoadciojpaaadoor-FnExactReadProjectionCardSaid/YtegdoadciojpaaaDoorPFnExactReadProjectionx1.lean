-- PRINTED BY print.sh 35421559b90ae4d0a3588c463048766b98c2df88dd9212a6774a882060cdf62d: not written by this session
import Derived.Test.YtegdoadciojpaaaDoorPFnExactReadProjectionx0
namespace Go.Proofs.YtegdoadciojpaaaDoor.PFnExactReadProjection
open Go.RowKit Go.Proofs.YtegdoadciojpaaaDoorW.PrintWords Go.Proofs.YtegdoadciojpaaaDoorW.PrintLast Go.Proofs.YtegdoadciojpaaaDoorW.PrintMore
attribute [local go_sem] max2_int min2_int max_two min_two max_three min_three max_four min_four   -- for this text's walks alone
set_option linter.unusedVariables false
set_option linter.unusedSimpArgs false

/-! ### spec_l17Names: function 22 -/
def spec_l17Names.f  : Option (List ByteArray) := some (([(⟨#[]⟩ : ByteArray), (⟨#[112, 108, 97, 116, 101]⟩ : ByteArray), (⟨#[109, 101, 114, 99, 97, 116, 111, 114]⟩ : ByteArray), (⟨#[99, 121, 108, 105, 110, 100, 101, 114]⟩ : ByteArray), (⟨#[109, 105, 108, 108, 101, 114]⟩ : ByteArray), (⟨#[103, 110, 111, 109, 111, 110, 105, 99]⟩ : ByteArray), (⟨#[115, 116, 101, 114, 101, 111]⟩ : ByteArray), (⟨#[111, 114, 116, 104, 111]⟩ : ByteArray), (⟨#[97, 122, 105, 109, 117, 116, 104]⟩ : ByteArray), (⟨#[122, 101, 110, 105, 116, 104]⟩ : ByteArray), (⟨#[97, 108, 98, 101, 114, 115]⟩ : ByteArray), (⟨#[108, 97, 109, 98, 101, 114, 116]⟩ : ByteArray), (⟨#[99, 111, 110, 105, 99]⟩ : ByteArray), (⟨#[115, 105, 110, 117, 115]⟩ : ByteArray), (⟨#[109, 111, 108, 108, 119, 101, 105, 100, 101]⟩ : ByteArray), (⟨#[101, 99, 107, 101, 114, 116]⟩ : ByteArray), (⟨#[116, 114, 97, 110, 115, 118, 101, 114, 115, 101]⟩ : ByteArray)] : List ByteArray))
set_option maxHeartbeats 8000000 in
set_option maxRecDepth 100000 in
theorem spec_l17Names.calls  (r : List ByteArray) (w : World) (h : spec_l17Names.f  = some r) :
    Calls Tryd.prog 22 #[] w fun e w' => ∃ v0_ : Value, e = .returned (v0_) ∧ Kd.R Kd.string 9 w' w.heap.size (fun _ => True) v0_ r ∧ Below w.heap.size w w' := by
  have HB := Aside0.mk (Below.refl w.heap.size w)
  have H : (some (([(⟨#[]⟩ : ByteArray), (⟨#[112, 108, 97, 116, 101]⟩ : ByteArray), (⟨#[109, 101, 114, 99, 97, 116, 111, 114]⟩ : ByteArray), (⟨#[99, 121, 108, 105, 110, 100, 101, 114]⟩ : ByteArray), (⟨#[109, 105, 108, 108, 101, 114]⟩ : ByteArray), (⟨#[103, 110, 111, 109, 111, 110, 105, 99]⟩ : ByteArray), (⟨#[115, 116, 101, 114, 101, 111]⟩ : ByteArray), (⟨#[111, 114, 116, 104, 111]⟩ : ByteArray), (⟨#[97, 122, 105, 109, 117, 116, 104]⟩ : ByteArray), (⟨#[122, 101, 110, 105, 116, 104]⟩ : ByteArray), (⟨#[97, 108, 98, 101, 114, 115]⟩ : ByteArray), (⟨#[108, 97, 109, 98, 101, 114, 116]⟩ : ByteArray), (⟨#[99, 111, 110, 105, 99]⟩ : ByteArray), (⟨#[115, 105, 110, 117, 115]⟩ : ByteArray), (⟨#[109, 111, 108, 108, 119, 101, 105, 100, 101]⟩ : ByteArray), (⟨#[101, 99, 107, 101, 114, 116]⟩ : ByteArray), (⟨#[116, 114, 97, 110, 115, 118, 101, 114, 115, 101]⟩ : ByteArray)] : List ByteArray))) = some r := h
  clear h
  obtain ⟨y101, hy101⟩ : ∃ y_ : List ByteArray, y_ = (([(⟨#[]⟩ : ByteArray), (⟨#[112, 108, 97, 116, 101]⟩ : ByteArray), (⟨#[109, 101, 114, 99, 97, 116, 111, 114]⟩ : ByteArray), (⟨#[99, 121, 108, 105, 110, 100, 101, 114]⟩ : ByteArray), (⟨#[109, 105, 108, 108, 101, 114]⟩ : ByteArray), (⟨#[103, 110, 111, 109, 111, 110, 105, 99]⟩ : ByteArray), (⟨#[115, 116, 101, 114, 101, 111]⟩ : ByteArray), (⟨#[111, 114, 116, 104, 111]⟩ : ByteArray), (⟨#[97, 122, 105, 109, 117, 116, 104]⟩ : ByteArray), (⟨#[122, 101, 110, 105, 116, 104]⟩ : ByteArray), (⟨#[97, 108, 98, 101, 114, 115]⟩ : ByteArray), (⟨#[108, 97, 109, 98, 101, 114, 116]⟩ : ByteArray), (⟨#[99, 111, 110, 105, 99]⟩ : ByteArray), (⟨#[115, 105, 110, 117, 115]⟩ : ByteArray), (⟨#[109, 111, 108, 108, 119, 101, 105, 100, 101]⟩ : ByteArray), (⟨#[101, 99, 107, 101, 114, 116]⟩ : ByteArray), (⟨#[116, 114, 97, 110, 115, 118, 101, 114, 115, 101]⟩ : ByteArray)] : List ByteArray)) := ⟨_, rfl⟩
  replace H : (some y101) = some r := by first | (rw [hy101]; with_reducible exact H) | (have H2_ := (Option.bind_some _ _).symm.trans H; rw [hy101]; with_reducible exact H2_) | (have H2_ := (Option.bind_some _ _).symm.trans H; with_reducible exact H2_) | with_reducible exact H | (rw [hy101]; exact H) | exact H
  have Ny101 := Aside0.mk hy101
  clear hy101
  obtain rfl := Option.some.inj H
  go_enter Tryd.func22, Tryd.ntmps22
  go_wp2_with (first | ((with_reducible refine gate_dst (N := 1) rfl ?_); refine Kd.R_lit Kd.string _ 9 ?hg (N := 1) ?hd (xs := ([(⟨#[]⟩ : ByteArray), (⟨#[112, 108, 97, 116, 101]⟩ : ByteArray), (⟨#[109, 101, 114, 99, 97, 116, 111, 114]⟩ : ByteArray), (⟨#[99, 121, 108, 105, 110, 100, 101, 114]⟩ : ByteArray), (⟨#[109, 105, 108, 108, 101, 114]⟩ : ByteArray), (⟨#[103, 110, 111, 109, 111, 110, 105, 99]⟩ : ByteArray), (⟨#[115, 116, 101, 114, 101, 111]⟩ : ByteArray), (⟨#[111, 114, 116, 104, 111]⟩ : ByteArray), (⟨#[97, 122, 105, 109, 117, 116, 104]⟩ : ByteArray), (⟨#[122, 101, 110, 105, 116, 104]⟩ : ByteArray), (⟨#[97, 108, 98, 101, 114, 115]⟩ : ByteArray), (⟨#[108, 97, 109, 98, 101, 114, 116]⟩ : ByteArray), (⟨#[99, 111, 110, 105, 99]⟩ : ByteArray), (⟨#[115, 105, 110, 117, 115]⟩ : ByteArray), (⟨#[109, 111, 108, 108, 119, 101, 105, 100, 101]⟩ : ByteArray), (⟨#[101, 99, 107, 101, 114, 116]⟩ : ByteArray), (⟨#[116, 114, 97, 110, 115, 118, 101, 114, 115, 101]⟩ : ByteArray)] : List ByteArray)) (inner := [.string (⟨#[]⟩ : ByteArray), .string (⟨#[112, 108, 97, 116, 101]⟩ : ByteArray), .string (⟨#[109, 101, 114, 99, 97, 116, 111, 114]⟩ : ByteArray), .string (⟨#[99, 121, 108, 105, 110, 100, 101, 114]⟩ : ByteArray), .string (⟨#[109, 105, 108, 108, 101, 114]⟩ : ByteArray), .string (⟨#[103, 110, 111, 109, 111, 110, 105, 99]⟩ : ByteArray), .string (⟨#[115, 116, 101, 114, 101, 111]⟩ : ByteArray), .string (⟨#[111, 114, 116, 104, 111]⟩ : ByteArray), .string (⟨#[97, 122, 105, 109, 117, 116, 104]⟩ : ByteArray), .string (⟨#[122, 101, 110, 105, 116, 104]⟩ : ByteArray), .string (⟨#[97, 108, 98, 101, 114, 115]⟩ : ByteArray), .string (⟨#[108, 97, 109, 98, 101, 114, 116]⟩ : ByteArray), .string (⟨#[99, 111, 110, 105, 99]⟩ : ByteArray), .string (⟨#[115, 105, 110, 117, 115]⟩ : ByteArray), .string (⟨#[109, 111, 108, 108, 119, 101, 105, 100, 101]⟩ : ByteArray), .string (⟨#[101, 99, 107, 101, 114, 116]⟩ : ByteArray), .string (⟨#[116, 114, 97, 110, 115, 118, 101, 114, 115, 101]⟩ : ByteArray)]) (ok := fun _ => True) (okp := fun _ => True) ?hr ?hp (fun _ hk => hk) trivial (Below.refl _ _) (Nat.le_refl _) (by simp) ?_; (case hd => rfl); (case hg => rfl); (case hr => first | (go_simp; done) | (go_simp; rfl)); (case hp => exact (Reps.one (show Kd.M Kd.string _ _ _ (⟨#[]⟩ : ByteArray) [.string (⟨#[]⟩ : ByteArray)] from rfl) (Reps.one (show Kd.M Kd.string _ _ _ (⟨#[112, 108, 97, 116, 101]⟩ : ByteArray) [.string (⟨#[112, 108, 97, 116, 101]⟩ : ByteArray)] from rfl) (Reps.one (show Kd.M Kd.string _ _ _ (⟨#[109, 101, 114, 99, 97, 116, 111, 114]⟩ : ByteArray) [.string (⟨#[109, 101, 114, 99, 97, 116, 111, 114]⟩ : ByteArray)] from rfl) (Reps.one (show Kd.M Kd.string _ _ _ (⟨#[99, 121, 108, 105, 110, 100, 101, 114]⟩ : ByteArray) [.string (⟨#[99, 121, 108, 105, 110, 100, 101, 114]⟩ : ByteArray)] from rfl) (Reps.one (show Kd.M Kd.string _ _ _ (⟨#[109, 105, 108, 108, 101, 114]⟩ : ByteArray) [.string (⟨#[109, 105, 108, 108, 101, 114]⟩ : ByteArray)] from rfl) (Reps.one (show Kd.M Kd.string _ _ _ (⟨#[103, 110, 111, 109, 111, 110, 105, 99]⟩ : ByteArray) [.string (⟨#[103, 110, 111, 109, 111, 110, 105, 99]⟩ : ByteArray)] from rfl) (Reps.one (show Kd.M Kd.string _ _ _ (⟨#[115, 116, 101, 114, 101, 111]⟩ : ByteArray) [.string (⟨#[115, 116, 101, 114, 101, 111]⟩ : ByteArray)] from rfl) (Reps.one (show Kd.M Kd.string _ _ _ (⟨#[111, 114, 116, 104, 111]⟩ : ByteArray) [.string (⟨#[111, 114, 116, 104, 111]⟩ : ByteArray)] from rfl) (Reps.one (show Kd.M Kd.string _ _ _ (⟨#[97, 122, 105, 109, 117, 116, 104]⟩ : ByteArray) [.string (⟨#[97, 122, 105, 109, 117, 116, 104]⟩ : ByteArray)] from rfl) (Reps.one (show Kd.M Kd.string _ _ _ (⟨#[122, 101, 110, 105, 116, 104]⟩ : ByteArray) [.string (⟨#[122, 101, 110, 105, 116, 104]⟩ : ByteArray)] from rfl) (Reps.one (show Kd.M Kd.string _ _ _ (⟨#[97, 108, 98, 101, 114, 115]⟩ : ByteArray) [.string (⟨#[97, 108, 98, 101, 114, 115]⟩ : ByteArray)] from rfl) (Reps.one (show Kd.M Kd.string _ _ _ (⟨#[108, 97, 109, 98, 101, 114, 116]⟩ : ByteArray) [.string (⟨#[108, 97, 109, 98, 101, 114, 116]⟩ : ByteArray)] from rfl) (Reps.one (show Kd.M Kd.string _ _ _ (⟨#[99, 111, 110, 105, 99]⟩ : ByteArray) [.string (⟨#[99, 111, 110, 105, 99]⟩ : ByteArray)] from rfl) (Reps.one (show Kd.M Kd.string _ _ _ (⟨#[115, 105, 110, 117, 115]⟩ : ByteArray) [.string (⟨#[115, 105, 110, 117, 115]⟩ : ByteArray)] from rfl) (Reps.one (show Kd.M Kd.string _ _ _ (⟨#[109, 111, 108, 108, 119, 101, 105, 100, 101]⟩ : ByteArray) [.string (⟨#[109, 111, 108, 108, 119, 101, 105, 100, 101]⟩ : ByteArray)] from rfl) (Reps.one (show Kd.M Kd.string _ _ _ (⟨#[101, 99, 107, 101, 114, 116]⟩ : ByteArray) [.string (⟨#[101, 99, 107, 101, 114, 116]⟩ : ByteArray)] from rfl) (Reps.one (show Kd.M Kd.string _ _ _ (⟨#[116, 114, 97, 110, 115, 118, 101, 114, 115, 101]⟩ : ByteArray) [.string (⟨#[116, 114, 97, 110, 115, 118, 101, 114, 115, 101]⟩ : ByteArray)] from rfl) (Reps.none _ _))))))))))))))))))); intro v102 w1 ho2 hb hg_ hnew_; clear hg_ hnew_; (first | rw [← Ny101.out] at ho2 | (simp only [Int.reduceToNat] at ho2; rw [← Ny101.out] at ho2)); have n0_ := Aside0.mk (Kd.R_lower ho2 (below_size (by repeat (first | (with_reducible first | exact HB.out | apply below_alloc | apply pw_below_drewN | apply below_drew1) | exact HB.out)))); have n1_ := Aside0.mk (below_step (by repeat (first | (with_reducible first | exact HB.out | apply below_alloc | apply pw_below_drewN | apply below_drew1) | exact HB.out)) hb); clear HB; have HO103 := n0_; have HB := n1_; clear n0_ n1_; clear hb ho2))
  go_ret
  exact ⟨_, by first | rfl | (simp [errW_none, errW_some] <;> rfl) | (simp [*, errW_none, errW_some] <;> rfl), by (with_reducible repeat (first | apply Kd.R_alloc | apply Kd.R_drewN | apply Kd.R_drew)); exact HO103.out, by repeat (first | (with_reducible first | exact HB.out | apply below_alloc | apply pw_below_drewN | apply below_drew1) | exact HB.out)⟩

/-! ### spec_ProjectionNamed: function 10 -/
def spec_ProjectionNamed.l0 : Nat → ByteArray → List ByteArray → Int → Option (Int)
  | 0, _, _, _ => none
  | k + 1, x0, x3, x4 => if x4 < (x3.length : Int) then (if 0 ≤ x4 then (if (rdOf ByteArray.empty x3 x4).toList = x0.toList then (some x4) else (spec_ProjectionNamed.l0 k x0 x3 (wrap64 (x4 + 1)))) else (none)) else (some 0)
def spec_ProjectionNamed.f (k : Nat) (a0 : ByteArray) : Option (Int) := (spec_l17Names.f).bind fun t104 => (spec_ProjectionNamed.l0 k a0 t104 1)
theorem spec_ProjectionNamed.mono_l : ∀ k, (∀ y0 y1 y2, LeO (spec_ProjectionNamed.l0 k y0 y1 y2) (spec_ProjectionNamed.l0 (k + 1) y0 y1 y2))
  | 0 => fun _ _ _ r h => by simp [spec_ProjectionNamed.l0] at h
  | k + 1 => by
    have ih0 := spec_ProjectionNamed.mono_l k
    · intro y0 y1 y2
      unfold spec_ProjectionNamed.l0
      repeat' first
      | (with_reducible exact ih0 _ _ _)
      | (with_reducible exact LeO.refl _)
      | (with_reducible exact LeO.none _)
      | (with_reducible refine LeO.ite ?_ ?_)
      | (with_reducible refine LeO.bind ?_ (fun _ => ?_))
      | exact ih0 _ _ _
      | exact LeO.none _
      | refine LeO.ite ?_ ?_
      | refine LeO.bind ?_ (fun _ => ?_)
theorem spec_ProjectionNamed.mono : ∀ a0 k, LeO (spec_ProjectionNamed.f k a0) (spec_ProjectionNamed.f (k + 1) a0) := by
  intro a0 k
  have ih0 := spec_ProjectionNamed.mono_l k
  unfold spec_ProjectionNamed.f
  repeat' first
      | (with_reducible exact ih0 _ _ _)
      | (with_reducible exact LeO.refl _)
      | (with_reducible exact LeO.none _)
      | (with_reducible refine LeO.ite ?_ ?_)
      | (with_reducible refine LeO.bind ?_ (fun _ => ?_))
      | exact ih0 _ _ _
      | exact LeO.none _
      | refine LeO.ite ?_ ?_
      | refine LeO.bind ?_ (fun _ => ?_)
set_option maxHeartbeats 8000000 in
set_option maxRecDepth 100000 in
theorem spec_ProjectionNamed.calls (k : Nat) (a0 : ByteArray) (r : Int) (w : World) (h : spec_ProjectionNamed.f k a0 = some r) :
    Calls Tryd.prog 10 #[.string a0] w fun e w' => e = .returned (.int .i64 r) ∧ Below w.heap.size w w' := by
  have HB := Aside0.mk (Below.refl w.heap.size w)
  have H : ((spec_l17Names.f).bind fun t104 => (spec_ProjectionNamed.l0 k a0 t104 1)) = some r := h
  clear h
  replace H := Option.bind_eq_some_iff.mp H
  obtain ⟨t104, A20, H⟩ := H
  replace H : (spec_ProjectionNamed.l0 k a0 t104 1) = some r := H
  have A2 := Aside0.mk A20
  clear A20
  have H' := Aside0.mk H
  clear H
  go_enter Tryd.func10, Tryd.ntmps10
  go_wp2_with (first | ((with_reducible refine gate_callee (f := 22) rfl ?_); refine goesL_ (some 5) rfl rfl Tryd.func22 (by kernel_rfl) rfl #[] rfl (by (try simp only [List.map_toArray, List.map_cons, List.map_nil]); first | done | rfl | (simp only [List.length_drop, List.length_take]; rfl)) ?_; (with_reducible refine (spec_l17Names.calls  t104 _ A2.out).mono ?_); rintro e w3 ⟨v105, rfl, ho0, hb⟩; refine ⟨_, rfl, ?_⟩; have n0_ := Aside0.mk (Kd.R_lower ho0 (below_size (by repeat (first | (with_reducible first | exact HB.out | apply below_alloc | apply pw_below_drewN | apply below_drew1) | exact HB.out)))); have n1_ := Aside0.mk (below_step (by repeat (first | (with_reducible first | exact HB.out | apply below_alloc | apply pw_below_drewN | apply below_drew1) | exact HB.out)) hb); clear HB; have HO106 := n0_; have HB := n1_; clear n0_ n1_; (try clear hb); (try clear hb2); (try clear hk); (try clear hi); (try clear ho0)))
  go_loopg [4] k (fun kq v4 w' => ∃ (x4_1 : Int), v4 = .int .i64 x4_1 ∧ Aside0 (spec_ProjectionNamed.l0 kq a0 t104 x4_1 = some r) ∧ Aside0 (kq ≤ k) ∧ Aside0 (Kd.R Kd.string 9 w' w.heap.size (fun _ => True) v105 t104) ∧ Aside0 (Below w.heap.size w w'))
  case atStart => exact ⟨(1), (by first | rfl | (simp; done) | (simp [*]; done)), H', ⟨Nat.le_refl _⟩, ⟨by (with_reducible repeat (first | apply Kd.R_alloc | apply Kd.R_drewN | apply Kd.R_drew)); exact HO106.out⟩, ⟨by repeat (first | (with_reducible first | exact HB.out | apply below_alloc | apply pw_below_drewN | apply below_drew1) | exact HB.out)⟩⟩
  case round =>
    clear H'
    try clear c1
    try clear c2
    try clear p2
    obtain ⟨x4_1, rfl, HA, HK1, HO_3, HB⟩ := hrel
    cases gk with
    | zero => exact absurd HA.out (by simp [spec_ProjectionNamed.l0])
    | succ k1 =>
      have H := HA.out
      clear HA
      simp only [spec_ProjectionNamed.l0] at H
      by_cases c4 : x4_1 < (t104.length : Int)
      · rw [if_pos c4] at H
        have c4b0 : decide (x4_1 < (t104.length : Int)) = true := decide_eq_true c4
        clear c4
        by_cases c5 : 0 ≤ x4_1
        · rw [if_pos c5] at H
          have c5b0 : decide (0 ≤ x4_1) = true := decide_eq_true c5
          clear c5
          by_cases c6 : (rdOf ByteArray.empty t104 x4_1).toList = a0.toList
          · rw [if_pos c6] at H
            have c6b0 : ((rdOf ByteArray.empty t104 x4_1).toList == a0.toList) = true := beq_iff_eq.mpr c6
            have c6b1 : ((rdOf ByteArray.empty t104 x4_1).toList != a0.toList) = false := bne_eq_false_iff_eq.mpr c6
            clear c6
            obtain rfl := Option.some.inj H
            obtain ⟨Ao7, co7, eo7⟩ := Kd.R_slice HO_3.out
            subst eo7
            have p107 : 0 ≤ (x4_1 : Int) := of_decide_eq_true (by first | (with_reducible assumption) | assumption)
            have q107 : x4_1 < (t104.length : Int) := of_decide_eq_true (by first | (with_reducible assumption) | assumption)
            obtain ⟨ad107, e107, hx107_0⟩ := Kd.at_string (Kd.R_reads' HO_3.out).2.2 x4_1 p107 q107
            cases e107
            replace p107 := eq_true p107
            replace q107 := eq_true q107
            go_wp2
            go_ret
            exact ⟨by first | rfl | (simp [errW_none, errW_some] <;> rfl) | (simp [*, errW_none, errW_some] <;> rfl), by repeat (first | (with_reducible first | exact HB.out | apply below_alloc | apply pw_below_drewN | apply below_drew1) | exact HB.out)⟩
          · rw [if_neg c6] at H
            have c6b0 : ((rdOf ByteArray.empty t104 x4_1).toList == a0.toList) = false := beq_eq_false_iff_ne.mpr c6
            have c6b1 : ((rdOf ByteArray.empty t104 x4_1).toList != a0.toList) = true := bne_iff_ne.mpr c6
            have H' := Aside0.mk H
            clear H
            obtain ⟨Ao8, co8, eo8⟩ := Kd.R_slice HO_3.out
            subst eo8
            have p107 : 0 ≤ (x4_1 : Int) := of_decide_eq_true (by first | (with_reducible assumption) | assumption)
            have q107 : x4_1 < (t104.length : Int) := of_decide_eq_true (by first | (with_reducible assumption) | assumption)
            obtain ⟨ad107, e107, hx107_0⟩ := Kd.at_string (Kd.R_reads' HO_3.out).2.2 x4_1 p107 q107
            cases e107
            replace p107 := eq_true p107
            replace q107 := eq_true q107
            go_wp2
            go_roundg k1
            case measure => have := HK1.out; omega
            case rel => exact ⟨(wrap64 (x4_1 + 1)), (by first | rfl | (simp; done) | (simp [*]; done)), H', ⟨by have := HK1.out; omega⟩, ⟨by (with_reducible repeat (first | apply Kd.R_alloc | apply Kd.R_drewN | apply Kd.R_drew)); exact HO_3.out⟩, ⟨by repeat (first | (with_reducible first | exact HB.out | apply below_alloc | apply pw_below_drewN | apply below_drew1) | exact HB.out)⟩⟩
        · rw [if_neg c5] at H
          exact absurd H (by simp)
      · rw [if_neg c4] at H
        have c4b0 : decide (x4_1 < (t104.length : Int)) = false := decide_eq_false c4
        clear c4
        obtain rfl := Option.some.inj H
        obtain ⟨Ao9, co9, eo9⟩ := Kd.R_slice HO_3.out
        subst eo9
        go_wp2
        go_ret
        exact ⟨by first | rfl | (simp [errW_none, errW_some] <;> rfl) | (simp [*, errW_none, errW_some] <;> rfl), by repeat (first | (with_reducible first | exact HB.out | apply below_alloc | apply pw_below_drewN | apply below_drew1) | exact HB.out)⟩

/-! ### spec_l00In: function 21 -/
def spec_l00In.f (a0 : Int) (a1 : Int) (a2 : Int) : Option (Bool) := if a0 ≥ a1 then (some (decide (a0 ≤ a2))) else (some false)
set_option maxHeartbeats 8000000 in
set_option maxRecDepth 100000 in
theorem spec_l00In.calls (a0 : Int) (a1 : Int) (a2 : Int) (r : Bool) (w : World) (h : spec_l00In.f a0 a1 a2 = some r) :
    Calls Tryd.prog 21 #[.int .i64 a0, .int .i64 a1, .int .i64 a2] w fun e w' => e = .returned (.bool r) ∧ Drawn0 w w' := by
  have H : (if a0 ≥ a1 then (some (decide (a0 ≤ a2))) else (some false)) = some r := h
  clear h
  by_cases c4 : a0 ≥ a1
  · rw [if_pos c4] at H
    have c4b0 : decide (a1 ≤ a0) = true := decide_eq_true c4
    clear c4
    obtain rfl := Option.some.inj H
    go_enter Tryd.func21, Tryd.ntmps21
    go_wp2
    go_ret
    exact ⟨by first | rfl | (simp; done) | (simp [*]; done), by repeat (first | exact Drawn0.refl _ | apply Drawn0.step)⟩
  · rw [if_neg c4] at H
    have c4b0 : decide (a1 ≤ a0) = false := decide_eq_false c4
    clear c4
    obtain rfl := Option.some.inj H
    go_enter Tryd.func21, Tryd.ntmps21
    go_wp2
    go_ret
    exact ⟨by first | rfl | (simp; done) | (simp [*]; done), by repeat (first | exact Drawn0.refl _ | apply Drawn0.step)⟩

/-! ### spec_l11Ok: function 39 -/
def spec_l11Ok.f (a0_0 : Int) (a0_1 : Int) : Option (Bool) := (spec_l00In.f a0_0 (-900000000) 900000000).bind fun t109 => (if t109 = true then ((spec_l00In.f a0_1 (-1799999999) 1800000000).bind fun t110 => (some t110)) else (some false))
set_option maxHeartbeats 8000000 in
set_option maxRecDepth 100000 in
theorem spec_l11Ok.calls (a0_0 : Int) (a0_1 : Int) (r : Bool) (w : World) (h : spec_l11Ok.f a0_0 a0_1 = some r) :
    Calls Tryd.prog 39 #[.agg #[.int .i64 a0_0, .int .i64 a0_1]] w fun e w' => e = .returned (.bool r) ∧ Below w.heap.size w w' := by
  have hu37 := Tryd.underlying37
  have HB := Aside0.mk (Below.refl w.heap.size w)
  have H : ((spec_l00In.f a0_0 (-900000000) 900000000).bind fun t109 => (if t109 = true then ((spec_l00In.f a0_1 (-1799999999) 1800000000).bind fun t110 => (some t110)) else (some false))) = some r := h
  clear h
  replace H := Option.bind_eq_some_iff.mp H
  obtain ⟨t109, A20, H⟩ := H
  replace H : (if t109 = true then ((spec_l00In.f a0_1 (-1799999999) 1800000000).bind fun t110 => (some t110)) else (some false)) = some r := H
  have A2 := Aside0.mk A20
  clear A20
  by_cases c3 : t109 = true
  · subst c3
    have H1 : ((spec_l00In.f a0_1 (-1799999999) 1800000000).bind fun t110 => (some t110)) = some r := by rw [if_pos rfl] at H; exact H
    clear H
    have H := H1
    clear H1
    replace H := Option.bind_eq_some_iff.mp H
    obtain ⟨t110, A40, H⟩ := H
    replace H : (some t110) = some r := H
    have A4 := Aside0.mk A40
    clear A40
    obtain rfl := Option.some.inj H
    go_enter Tryd.func39, Tryd.ntmps39
    go_wp2_with (first | ((with_reducible refine gate_dst (N := 1) rfl ?_); refine box_event ?hg (N := 1) ?hd (cs := #[.int .i64 a0_0, .int .i64 a0_1]) (t := 37) ?hr ?_; (case hd => rfl); (case hg => rfl); (case hr => first | (go_simp; done) | (go_simp; rfl)); intro gb108 hg w5 hbox hb; have n0_ := Aside0.mk (below_step (by repeat (first | (with_reducible first | exact HB.out | apply below_alloc | apply pw_below_drewN | apply below_drew1) | exact HB.out)) hb); have n1_ := Aside0.mk (hbox); have n2_ := Aside0.mk ((by rw [hg]; exact (below_size (by repeat (first | (with_reducible first | exact HB.out | apply below_alloc | apply pw_below_drewN | apply below_drew1) | exact HB.out))) : w.heap.size ≤ gb108)); have n3_ := Aside0.mk ((by rw [hg]; exact (below_size (by repeat (first | (with_reducible first | exact HB.out | apply below_alloc | apply pw_below_drewN | apply below_drew1) | exact HB.out))) : w.heap.size ≤ gb108)); clear HB; have HB := n0_; have BK108 := n1_; have GW108 := n2_; have GE108 := n3_; clear n0_ n1_ n2_ n3_; clear hb hbox hg; have hcz6_0 : w5.cell? ⟨gb108, 0, none⟩ = some (.int .i64 a0_0) := (blk_cell BK108.out 0).trans rfl; have hcz6_1 : w5.cell? ⟨gb108, 1, none⟩ = some (.int .i64 a0_1) := (blk_cell BK108.out 1).trans rfl; have hfz6_0 := blk_frozen BK108.out 0; have hfz6_1 := blk_frozen BK108.out 1) | ((with_reducible refine gate_callee (f := 21) rfl ?_); refine goesL_ (some 5) rfl rfl Tryd.func21 (by kernel_rfl) rfl #[.int .i64 a0_0, .int .i64 (-900000000), .int .i64 900000000] rfl (by (try simp only [List.map_toArray, List.map_cons, List.map_nil]); first | done | rfl | (simp only [List.length_drop, List.length_take]; rfl)) ?_; (with_reducible refine (spec_l00In.calls a0_0 (-900000000) 900000000 true _ A2.out).mono ?_); rintro e w' ⟨rfl, ⟨nd, rfl⟩⟩; refine ⟨_, rfl, ?_⟩) | (go_at_call 21; (with_reducible refine (spec_l00In.calls a0_1 (-1799999999) 1800000000 t110 _ A4.out).mono ?_); rintro e w' ⟨rfl, ⟨nd, rfl⟩⟩))
    go_ret
    exact ⟨by first | rfl | (simp [errW_none, errW_some] <;> rfl) | (simp [*, errW_none, errW_some] <;> rfl), by repeat (first | (with_reducible first | exact HB.out | apply below_alloc | apply pw_below_drewN | apply below_drew1 | refine below_set ?_ GE108.out) | exact HB.out)⟩
  · replace c3 := Bool.eq_false_iff.mpr c3
    subst c3
    have H1 : (some false) = some r := by rw [if_neg (show ¬ (false = true) by decide)] at H; exact H
    clear H
    have H := H1
    clear H1
    obtain rfl := Option.some.inj H
    go_enter Tryd.func39, Tryd.ntmps39
    go_wp2_with (first | ((with_reducible refine gate_dst (N := 1) rfl ?_); refine box_event ?hg (N := 1) ?hd (cs := #[.int .i64 a0_0, .int .i64 a0_1]) (t := 37) ?hr ?_; (case hd => rfl); (case hg => rfl); (case hr => first | (go_simp; done) | (go_simp; rfl)); intro gb108 hg w7 hbox hb; have n0_ := Aside0.mk (below_step (by repeat (first | (with_reducible first | exact HB.out | apply below_alloc | apply pw_below_drewN | apply below_drew1) | exact HB.out)) hb); have n1_ := Aside0.mk (hbox); have n2_ := Aside0.mk ((by rw [hg]; exact (below_size (by repeat (first | (with_reducible first | exact HB.out | apply below_alloc | apply pw_below_drewN | apply below_drew1) | exact HB.out))) : w.heap.size ≤ gb108)); have n3_ := Aside0.mk ((by rw [hg]; exact (below_size (by repeat (first | (with_reducible first | exact HB.out | apply below_alloc | apply pw_below_drewN | apply below_drew1) | exact HB.out))) : w.heap.size ≤ gb108)); clear HB; have HB := n0_; have BK108 := n1_; have GW108 := n2_; have GE108 := n3_; clear n0_ n1_ n2_ n3_; clear hb hbox hg; have hcz8_0 : w7.cell? ⟨gb108, 0, none⟩ = some (.int .i64 a0_0) := (blk_cell BK108.out 0).trans rfl; have hcz8_1 : w7.cell? ⟨gb108, 1, none⟩ = some (.int .i64 a0_1) := (blk_cell BK108.out 1).trans rfl; have hfz8_0 := blk_frozen BK108.out 0; have hfz8_1 := blk_frozen BK108.out 1) | ((with_reducible refine gate_callee (f := 21) rfl ?_); refine goesL_ (some 5) rfl rfl Tryd.func21 (by kernel_rfl) rfl #[.int .i64 a0_0, .int .i64 (-900000000), .int .i64 900000000] rfl (by (try simp only [List.map_toArray, List.map_cons, List.map_nil]); first | done | rfl | (simp only [List.length_drop, List.length_take]; rfl)) ?_; (with_reducible refine (spec_l00In.calls a0_0 (-900000000) 900000000 false _ A2.out).mono ?_); rintro e w' ⟨rfl, ⟨nd, rfl⟩⟩; refine ⟨_, rfl, ?_⟩))
    go_ret
    exact ⟨by first | rfl | (simp [errW_none, errW_some] <;> rfl) | (simp [*, errW_none, errW_some] <;> rfl), by repeat (first | (with_reducible first | exact HB.out | apply below_alloc | apply pw_below_drewN | apply below_drew1 | refine below_set ?_ GE108.out) | exact HB.out)⟩

/-! ### spec_l17Standard: function 40 -/
def spec_l17Standard.f (a0 : Int) : Option (Bool) := (spec_l00In.f a0 (-890000000) 890000000).bind fun t111 => (some t111)
set_option maxHeartbeats 8000000 in
set_option maxRecDepth 100000 in
theorem spec_l17Standard.calls (a0 : Int) (r : Bool) (w : World) (h : spec_l17Standard.f a0 = some r) :
    Calls Tryd.prog 40 #[.int .i64 a0] w fun e w' => e = .returned (.bool r) ∧ Drawn0 w w' := by
  have H : ((spec_l00In.f a0 (-890000000) 890000000).bind fun t111 => (some t111)) = some r := h
  clear h
  replace H := Option.bind_eq_some_iff.mp H
  obtain ⟨t111, A20, H⟩ := H
  replace H : (some t111) = some r := H
  have A2 := Aside0.mk A20
  clear A20
  obtain rfl := Option.some.inj H
  go_enter Tryd.func40, Tryd.ntmps40
  go_wp2_with (first | ((with_reducible refine gate_callee (f := 21) rfl ?_); refine goesL_ (some 4) rfl rfl Tryd.func21 (by kernel_rfl) rfl #[.int .i64 a0, .int .i64 (-890000000), .int .i64 890000000] rfl (by (try simp only [List.map_toArray, List.map_cons, List.map_nil]); first | done | rfl | (simp only [List.length_drop, List.length_take]; rfl)) ?_; (with_reducible refine (spec_l00In.calls a0 (-890000000) 890000000 t111 _ A2.out).mono ?_); rintro e w' ⟨rfl, ⟨nd, rfl⟩⟩; refine ⟨_, rfl, ?_⟩))
  go_ret
  exact ⟨by first | rfl | (simp; done) | (simp [*]; done), by repeat (first | exact Drawn0.refl _ | apply Drawn0.step)⟩

end Go.Proofs.YtegdoadciojpaaaDoor.PFnExactReadProjection
