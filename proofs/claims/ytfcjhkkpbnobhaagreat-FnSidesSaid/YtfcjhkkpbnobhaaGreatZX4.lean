/- The law FnSides gives true, whatever bytes come in. No conditions. (One of the texts of its proof, put together by a program of this session.) -/
import Derived.Test.YtfcjhkkpbnobhaaGreatZX0
import Derived.Test.YtfcjhkkpbnobhaaGreatZX2
import Derived.Test.YtfcjhkkpbnobhaaGreatZX3
set_option linter.unusedSimpArgs false
set_option linter.unusedVariables false
namespace Go.Proofs.YtfcjhkkpbnobhaaGreat.PFnSides
open Go.RowKit Go.Proofs.YtfcjhkkpbnobhaaGreatW.PrintWords Go.Proofs.YtfcjhkkpbnobhaaGreatW.PrintLast Go.Proofs.YtfcjhkkpbnobhaaGreatW.PrintMore
mutual
noncomputable def zD.j0 : Nat -> Int -> Int -> Bool -> Int -> Int -> Int -> Int -> Int -> Int -> Int -> Int -> Option (Bool)
  | 0, _, _, _, _, _, _, _, _, _, _, _ => none
  | k + 1, x6, x11, x69, x200000, x200001, x201000, x201001, x212000, x212001, x215000, x215001 => if x69 = true then (some false) else (if x11 = 0 then (if x6 = 1 then ((zaq.f x212000 x212001 x215000 x215001).bind fun t218 => (if t218 = 1 then (zD.j1 k true x200000 x200001 x201000 x201001) else (if x6 = 0 then ((zaq.f x215000 x215001 x212000 x212001).bind fun t219 => (zD.j1 k (t219 == 1) x200000 x200001 x201000 x201001)) else (zD.j1 k false x200000 x200001 x201000 x201001)))) else (if x6 = 0 then ((zaq.f x215000 x215001 x212000 x212001).bind fun t220 => (zD.j1 k (t220 == 1) x200000 x200001 x201000 x201001)) else (zD.j1 k false x200000 x200001 x201000 x201001))) else (zD.j1 k false x200000 x200001 x201000 x201001))
noncomputable def zD.j1 : Nat -> Bool -> Int -> Int -> Int -> Int -> Option (Bool)
  | 0, _, _, _, _, _ => none
  | k + 1, x91, x200000, x200001, x201000, x201001 => if x91 = true then (some false) else ((zba.f x200000 x200001 x201000 x201001 x200000 x200001).bind fun bt221 => (if bt221.2.2 = 0 then ((zfV.f bt221.1 bt221.2.1 0).bind fun t225 => (some t225)) else (some true)))
end
noncomputable def zD.f (k : Nat) (l0 : List Int) : Option (Bool) := if (l0.length : Int) > 1048576 then (some true) else ((zat.f k l0).bind fun bt193 => ((zdi.f bt193.1 bt193.2.1 bt193.2.2.1 bt193.2.2.2.1 bt193.2.2.2.2.1 bt193.2.2.2.2.2).bind fun bt202 => ((zba.f bt193.1 bt193.2.1 bt193.2.2.1 bt193.2.2.2.1 bt193.2.2.2.2.1 bt193.2.2.2.2.2).bind fun bt204 => ((zbM.f bt193.1 bt193.2.1 bt193.2.2.1 bt193.2.2.2.1 bt193.2.2.2.2.1 bt193.2.2.2.2.2).bind fun bt208 => ((zbV.f 0).bind fun bt212 => (if bt202.2 = 0 then (if bt204.2.2 = 0 then (if bt202.1 = 1 then ((zaq.f bt204.1 bt204.2.1 bt212.1 bt212.2).bind fun t215 => (if t215 = 1 then (zD.j0 k bt202.1 bt208.2.2 true bt193.1 bt193.2.1 bt193.2.2.1 bt193.2.2.2.1 bt208.1 bt208.2.1 bt212.1 bt212.2) else (if bt202.1 = 0 then ((zaq.f bt212.1 bt212.2 bt204.1 bt204.2.1).bind fun t216 => (zD.j0 k bt202.1 bt208.2.2 (t216 == 1) bt193.1 bt193.2.1 bt193.2.2.1 bt193.2.2.2.1 bt208.1 bt208.2.1 bt212.1 bt212.2)) else (zD.j0 k bt202.1 bt208.2.2 false bt193.1 bt193.2.1 bt193.2.2.1 bt193.2.2.2.1 bt208.1 bt208.2.1 bt212.1 bt212.2)))) else (if bt202.1 = 0 then ((zaq.f bt212.1 bt212.2 bt204.1 bt204.2.1).bind fun t217 => (zD.j0 k bt202.1 bt208.2.2 (t217 == 1) bt193.1 bt193.2.1 bt193.2.2.1 bt193.2.2.2.1 bt208.1 bt208.2.1 bt212.1 bt212.2)) else (zD.j0 k bt202.1 bt208.2.2 false bt193.1 bt193.2.1 bt193.2.2.1 bt193.2.2.2.1 bt208.1 bt208.2.1 bt212.1 bt212.2))) else (zD.j0 k bt202.1 bt208.2.2 false bt193.1 bt193.2.1 bt193.2.2.1 bt193.2.2.2.1 bt208.1 bt208.2.1 bt212.1 bt212.2)) else (some false)))))))
set_option maxHeartbeats 8000000 in
set_option maxRecDepth 100000 in
theorem zD.calls (k : Nat) (A0 : Option Addr) (c0 : Nat) (l0 : List Int) (r : Bool) (w : World) (hr0 : Kd.C (Kd.int .u8) w A0 l0.length l0) (hc0 : l0.length <= c0) (h : zD.f k l0 = some r) :
    Calls Tryz.prog 3 #[.slice A0 l0.length c0] w fun e w' => e = .returned (.bool r) /\ Below w.heap.size w w' := by
  have hu24 := Tryz.underlying24
  have hu30 := Tryz.underlying30
  have HR0 := zk.mk hr0
  have HC0 := zk.mk hc0
  clear hr0 hc0
  have HB := zk.mk (Below.refl w.heap.size w)
  have H : (if (l0.length : Int) > 1048576 then (some true) else ((zat.f k l0).bind fun bt193 => ((zdi.f bt193.1 bt193.2.1 bt193.2.2.1 bt193.2.2.2.1 bt193.2.2.2.2.1 bt193.2.2.2.2.2).bind fun bt202 => ((zba.f bt193.1 bt193.2.1 bt193.2.2.1 bt193.2.2.2.1 bt193.2.2.2.2.1 bt193.2.2.2.2.2).bind fun bt204 => ((zbM.f bt193.1 bt193.2.1 bt193.2.2.1 bt193.2.2.2.1 bt193.2.2.2.2.1 bt193.2.2.2.2.2).bind fun bt208 => ((zbV.f 0).bind fun bt212 => (if bt202.2 = 0 then (if bt204.2.2 = 0 then (if bt202.1 = 1 then ((zaq.f bt204.1 bt204.2.1 bt212.1 bt212.2).bind fun t215 => (if t215 = 1 then (zD.j0 k bt202.1 bt208.2.2 true bt193.1 bt193.2.1 bt193.2.2.1 bt193.2.2.2.1 bt208.1 bt208.2.1 bt212.1 bt212.2) else (if bt202.1 = 0 then ((zaq.f bt212.1 bt212.2 bt204.1 bt204.2.1).bind fun t216 => (zD.j0 k bt202.1 bt208.2.2 (t216 == 1) bt193.1 bt193.2.1 bt193.2.2.1 bt193.2.2.2.1 bt208.1 bt208.2.1 bt212.1 bt212.2)) else (zD.j0 k bt202.1 bt208.2.2 false bt193.1 bt193.2.1 bt193.2.2.1 bt193.2.2.2.1 bt208.1 bt208.2.1 bt212.1 bt212.2)))) else (if bt202.1 = 0 then ((zaq.f bt212.1 bt212.2 bt204.1 bt204.2.1).bind fun t217 => (zD.j0 k bt202.1 bt208.2.2 (t217 == 1) bt193.1 bt193.2.1 bt193.2.2.1 bt193.2.2.2.1 bt208.1 bt208.2.1 bt212.1 bt212.2)) else (zD.j0 k bt202.1 bt208.2.2 false bt193.1 bt193.2.1 bt193.2.2.1 bt193.2.2.2.1 bt208.1 bt208.2.1 bt212.1 bt212.2))) else (zD.j0 k bt202.1 bt208.2.2 false bt193.1 bt193.2.1 bt193.2.2.1 bt193.2.2.2.1 bt208.1 bt208.2.1 bt212.1 bt212.2)) else (some false)))))))) = some r := h
  clear h
  by_cases c2 : (l0.length : Int) > 1048576
  · rw [if_pos c2] at H
    have c2b0 : decide (1048576 < (l0.length : Int)) = true := decide_eq_true c2
    have c2b1 : decide (1048576 < l0.length) = true := decide_eq_true (by omega)
    clear c2
    obtain rfl := Option.some.inj H
    go_enter Tryz.func3, Tryz.ntmps3
    go_wp2
    go_ret
    exact ⟨by first | rfl | (simp [zan, zam] <;> rfl) | (simp [*, zan, zam] <;> rfl), by repeat (first | (with_reducible first | exact HB.out | apply zq | apply zm | apply zo) | exact HB.out)⟩
  · rw [if_neg c2] at H
    have c2b0 : decide (1048576 < (l0.length : Int)) = false := decide_eq_false c2
    have c2b1 : decide (1048576 < l0.length) = false := decide_eq_false (by omega)
    clear c2
    replace H := Option.bind_eq_some_iff.mp H
    obtain ⟨⟨t193, t194, t195, t196, t197, t198⟩, A30, H⟩ := H
    replace H : ((zdi.f t193 t194 t195 t196 t197 t198).bind fun bt202 => ((zba.f t193 t194 t195 t196 t197 t198).bind fun bt204 => ((zbM.f t193 t194 t195 t196 t197 t198).bind fun bt208 => ((zbV.f 0).bind fun bt212 => (if bt202.2 = 0 then (if bt204.2.2 = 0 then (if bt202.1 = 1 then ((zaq.f bt204.1 bt204.2.1 bt212.1 bt212.2).bind fun t215 => (if t215 = 1 then (zD.j0 k bt202.1 bt208.2.2 true t193 t194 t195 t196 bt208.1 bt208.2.1 bt212.1 bt212.2) else (if bt202.1 = 0 then ((zaq.f bt212.1 bt212.2 bt204.1 bt204.2.1).bind fun t216 => (zD.j0 k bt202.1 bt208.2.2 (t216 == 1) t193 t194 t195 t196 bt208.1 bt208.2.1 bt212.1 bt212.2)) else (zD.j0 k bt202.1 bt208.2.2 false t193 t194 t195 t196 bt208.1 bt208.2.1 bt212.1 bt212.2)))) else (if bt202.1 = 0 then ((zaq.f bt212.1 bt212.2 bt204.1 bt204.2.1).bind fun t217 => (zD.j0 k bt202.1 bt208.2.2 (t217 == 1) t193 t194 t195 t196 bt208.1 bt208.2.1 bt212.1 bt212.2)) else (zD.j0 k bt202.1 bt208.2.2 false t193 t194 t195 t196 bt208.1 bt208.2.1 bt212.1 bt212.2))) else (zD.j0 k bt202.1 bt208.2.2 false t193 t194 t195 t196 bt208.1 bt208.2.1 bt212.1 bt212.2)) else (some false)))))) = some r := H
    have A3 := zk.mk A30
    clear A30
    replace H := Option.bind_eq_some_iff.mp H
    obtain ⟨⟨t202, t203⟩, A40, H⟩ := H
    replace H : ((zba.f t193 t194 t195 t196 t197 t198).bind fun bt204 => ((zbM.f t193 t194 t195 t196 t197 t198).bind fun bt208 => ((zbV.f 0).bind fun bt212 => (if t203 = 0 then (if bt204.2.2 = 0 then (if t202 = 1 then ((zaq.f bt204.1 bt204.2.1 bt212.1 bt212.2).bind fun t215 => (if t215 = 1 then (zD.j0 k t202 bt208.2.2 true t193 t194 t195 t196 bt208.1 bt208.2.1 bt212.1 bt212.2) else (if t202 = 0 then ((zaq.f bt212.1 bt212.2 bt204.1 bt204.2.1).bind fun t216 => (zD.j0 k t202 bt208.2.2 (t216 == 1) t193 t194 t195 t196 bt208.1 bt208.2.1 bt212.1 bt212.2)) else (zD.j0 k t202 bt208.2.2 false t193 t194 t195 t196 bt208.1 bt208.2.1 bt212.1 bt212.2)))) else (if t202 = 0 then ((zaq.f bt212.1 bt212.2 bt204.1 bt204.2.1).bind fun t217 => (zD.j0 k t202 bt208.2.2 (t217 == 1) t193 t194 t195 t196 bt208.1 bt208.2.1 bt212.1 bt212.2)) else (zD.j0 k t202 bt208.2.2 false t193 t194 t195 t196 bt208.1 bt208.2.1 bt212.1 bt212.2))) else (zD.j0 k t202 bt208.2.2 false t193 t194 t195 t196 bt208.1 bt208.2.1 bt212.1 bt212.2)) else (some false))))) = some r := H
    have A4 := zk.mk A40
    clear A40
    replace H := Option.bind_eq_some_iff.mp H
    obtain ⟨⟨t204, t205, t206⟩, A50, H⟩ := H
    replace H : ((zbM.f t193 t194 t195 t196 t197 t198).bind fun bt208 => ((zbV.f 0).bind fun bt212 => (if t203 = 0 then (if t206 = 0 then (if t202 = 1 then ((zaq.f t204 t205 bt212.1 bt212.2).bind fun t215 => (if t215 = 1 then (zD.j0 k t202 bt208.2.2 true t193 t194 t195 t196 bt208.1 bt208.2.1 bt212.1 bt212.2) else (if t202 = 0 then ((zaq.f bt212.1 bt212.2 t204 t205).bind fun t216 => (zD.j0 k t202 bt208.2.2 (t216 == 1) t193 t194 t195 t196 bt208.1 bt208.2.1 bt212.1 bt212.2)) else (zD.j0 k t202 bt208.2.2 false t193 t194 t195 t196 bt208.1 bt208.2.1 bt212.1 bt212.2)))) else (if t202 = 0 then ((zaq.f bt212.1 bt212.2 t204 t205).bind fun t217 => (zD.j0 k t202 bt208.2.2 (t217 == 1) t193 t194 t195 t196 bt208.1 bt208.2.1 bt212.1 bt212.2)) else (zD.j0 k t202 bt208.2.2 false t193 t194 t195 t196 bt208.1 bt208.2.1 bt212.1 bt212.2))) else (zD.j0 k t202 bt208.2.2 false t193 t194 t195 t196 bt208.1 bt208.2.1 bt212.1 bt212.2)) else (some false)))) = some r := H
    have A5 := zk.mk A50
    clear A50
    replace H := Option.bind_eq_some_iff.mp H
    obtain ⟨⟨t208, t209, t210⟩, A60, H⟩ := H
    replace H : ((zbV.f 0).bind fun bt212 => (if t203 = 0 then (if t206 = 0 then (if t202 = 1 then ((zaq.f t204 t205 bt212.1 bt212.2).bind fun t215 => (if t215 = 1 then (zD.j0 k t202 t210 true t193 t194 t195 t196 t208 t209 bt212.1 bt212.2) else (if t202 = 0 then ((zaq.f bt212.1 bt212.2 t204 t205).bind fun t216 => (zD.j0 k t202 t210 (t216 == 1) t193 t194 t195 t196 t208 t209 bt212.1 bt212.2)) else (zD.j0 k t202 t210 false t193 t194 t195 t196 t208 t209 bt212.1 bt212.2)))) else (if t202 = 0 then ((zaq.f bt212.1 bt212.2 t204 t205).bind fun t217 => (zD.j0 k t202 t210 (t217 == 1) t193 t194 t195 t196 t208 t209 bt212.1 bt212.2)) else (zD.j0 k t202 t210 false t193 t194 t195 t196 t208 t209 bt212.1 bt212.2))) else (zD.j0 k t202 t210 false t193 t194 t195 t196 t208 t209 bt212.1 bt212.2)) else (some false))) = some r := H
    have A6 := zk.mk A60
    clear A60
    replace H := Option.bind_eq_some_iff.mp H
    obtain ⟨⟨t212, t213⟩, A70, H⟩ := H
    replace H : (if t203 = 0 then (if t206 = 0 then (if t202 = 1 then ((zaq.f t204 t205 t212 t213).bind fun t215 => (if t215 = 1 then (zD.j0 k t202 t210 true t193 t194 t195 t196 t208 t209 t212 t213) else (if t202 = 0 then ((zaq.f t212 t213 t204 t205).bind fun t216 => (zD.j0 k t202 t210 (t216 == 1) t193 t194 t195 t196 t208 t209 t212 t213)) else (zD.j0 k t202 t210 false t193 t194 t195 t196 t208 t209 t212 t213)))) else (if t202 = 0 then ((zaq.f t212 t213 t204 t205).bind fun t217 => (zD.j0 k t202 t210 (t217 == 1) t193 t194 t195 t196 t208 t209 t212 t213)) else (zD.j0 k t202 t210 false t193 t194 t195 t196 t208 t209 t212 t213))) else (zD.j0 k t202 t210 false t193 t194 t195 t196 t208 t209 t212 t213)) else (some false)) = some r := H
    have A7 := zk.mk A70
    clear A70
    by_cases c8 : t203 = 0
    · rw [if_pos c8] at H
      have c8b0 : (t203 == 0) = true := beq_iff_eq.mpr c8
      have c8b1 : (t203 != 0) = false := bne_eq_false_iff_eq.mpr c8
      clear c8
      have HC9 := zk.mk H
      clear H
      go_enter Tryz.func3, Tryz.ntmps3
      go_upto_region 10 with (first | ((with_reducible refine zah (f := 12) rfl ?_);refine zbE (some 20) rfl rfl Tryz.func12 (by kernel_rfl) rfl #[.slice A0 l0.length c0] rfl (by (try simp only [List.map_toArray, List.map_cons, List.map_nil]);first | done | rfl | (simp only [List.length_drop, List.length_take];rfl)) ?_;(with_reducible refine (zat.calls k _ _ l0 t193 t194 t195 t196 t197 t198 _ ?side1 ?side2 A3.out).mono ?_);(case side1 => repeat (first | exact HR0.out | (with_reducible refine Kd.C_alloc ?_ _) | (with_reducible refine Kd.C_drewN ?_ _) | (with_reducible refine Kd.C_drew ?_)));(case side2 => exact HC0.out);rintro e w10 ⟨rfl, hb⟩;refine ⟨_, rfl, ?_⟩;have n0_ := zk.mk (zaj (by repeat (first | (with_reducible first | exact HB.out | apply zq | apply zm | apply zo) | exact HB.out)) hb);clear HB;have HB := n0_;clear n0_;(try clear hb);(try clear hb2);(try clear hk);(try clear hi)) | ((with_reducible refine zbC (N := 3) rfl ?_);refine zbz ?hg (N := 3) ?hd (cs := #[.int .i64 0, .int .i64 0]) (t := 24) ?hr ?_;(case hd => rfl);(case hg => rfl);(case hr => first | (go_simp;done) | (go_simp;rfl));intro gb199 hg w11 hbox hb;have n0_ := zk.mk (zaj (by repeat (first | (with_reducible first | exact HB.out | apply zq | apply zm | apply zo) | exact HB.out)) hb);have n1_ := zk.mk (hbox);have n2_ := zk.mk ((by rw [hg];exact (zas (by repeat (first | (with_reducible first | exact HB.out | apply zq | apply zm | apply zo) | exact HB.out))) : w.heap.size <= gb199));have n3_ := zk.mk ((by rw [hg];exact (zas (by repeat (first | (with_reducible first | exact HB.out | apply zq | apply zm | apply zo) | exact HB.out))) : w.heap.size <= gb199));clear HB;have HB := n0_;have BK199 := n1_;have GW199 := n2_;have GE199 := n3_;clear n0_ n1_ n2_ n3_;clear hb hbox hg) | ((with_reducible refine zbC (N := 4) rfl ?_);refine zbz ?hg (N := 4) ?hd (cs := #[.int .i64 0, .int .i64 0]) (t := 24) ?hr ?_;(case hd => rfl);(case hg => rfl);(case hr => first | (go_simp;done) | (go_simp;rfl));intro gb200 hg w12 hbox hb;have n0_ := zk.mk (zu (g := gb199) (o := .cells #[.int .i64 0, .int .i64 0] 24 (0, 0)) (by (with_reducible repeat (first | refine za ?_ _ | refine zf ?_ | refine ze ?_ _));exact BK199.out) hb);have n1_ := zk.mk (zaj (by repeat (first | (with_reducible first | exact HB.out | apply zq | apply zm | apply zo | refine zh ?_ GE199.out) | exact HB.out)) hb);have n2_ := zk.mk (hbox);have n3_ := zk.mk ((by rw [hg];exact (zas (by repeat (first | (with_reducible first | exact HB.out | apply zq | apply zm | apply zo | refine zh ?_ GE199.out) | exact HB.out))) : w.heap.size <= gb200));have n4_ := zk.mk ((by rw [hg];exact (zas (by repeat (first | (with_reducible first | exact HB.out | apply zq | apply zm | apply zo | refine zh ?_ GE199.out) | exact HB.out))) : w.heap.size <= gb200));have n5_ := zk.mk ((by rw [hg];exact Nat.ne_of_lt (zai (g := gb199) (o := .cells #[.int .i64 0, .int .i64 0] 24 (0, 0)) (by (with_reducible repeat (first | refine za ?_ _ | refine zf ?_ | refine ze ?_ _));exact BK199.out)) : gb199 ≠ gb200));have n6_ := zk.mk ((by rw [hg];exact Nat.ne_of_gt (zai (g := gb199) (o := .cells #[.int .i64 0, .int .i64 0] 24 (0, 0)) (by (with_reducible repeat (first | refine za ?_ _ | refine zf ?_ | refine ze ?_ _));exact BK199.out)) : gb200 ≠ gb199));clear BK199;clear HB;have BK199 := n0_;have HB := n1_;have BK200 := n2_;have GW200 := n3_;have GE200 := n4_;have NB199_200 := n5_;have NB200_199 := n6_;clear n0_ n1_ n2_ n3_ n4_ n5_ n6_;clear hb hbox hg) | ((with_reducible refine zbC (N := 5) rfl ?_);refine zbz ?hg (N := 5) ?hd (cs := #[.int .i64 0, .int .i64 0]) (t := 24) ?hr ?_;(case hd => rfl);(case hg => rfl);(case hr => first | (go_simp;done) | (go_simp;rfl));intro gb201 hg w13 hbox hb;have n0_ := zk.mk (zu (g := gb199) (o := .cells #[.int .i64 0, .int .i64 0] 24 (0, 0)) (by (with_reducible repeat (first | refine za ?_ _ | refine zf ?_ | refine ze ?_ _));exact BK199.out) hb);have n1_ := zk.mk (zu (g := gb200) (o := .cells #[.int .i64 0, .int .i64 0] 24 (0, 0)) (by (with_reducible repeat (first | refine za ?_ _ | refine zf ?_ | refine ze ?_ _));exact BK200.out) hb);have n2_ := zk.mk (zaj (by repeat (first | (with_reducible first | exact HB.out | apply zq | apply zm | apply zo | refine zh ?_ GE199.out | refine zh ?_ GE200.out) | exact HB.out)) hb);have n3_ := zk.mk (hbox);have n4_ := zk.mk ((by rw [hg];exact (zas (by repeat (first | (with_reducible first | exact HB.out | apply zq | apply zm | apply zo | refine zh ?_ GE199.out | refine zh ?_ GE200.out) | exact HB.out))) : w.heap.size <= gb201));have n5_ := zk.mk ((by rw [hg];exact (zas (by repeat (first | (with_reducible first | exact HB.out | apply zq | apply zm | apply zo | refine zh ?_ GE199.out | refine zh ?_ GE200.out) | exact HB.out))) : w.heap.size <= gb201));have n6_ := zk.mk ((by rw [hg];exact Nat.ne_of_lt (zai (g := gb199) (o := .cells #[.int .i64 0, .int .i64 0] 24 (0, 0)) (by (with_reducible repeat (first | refine za ?_ _ | refine zf ?_ | refine ze ?_ _));exact BK199.out)) : gb199 ≠ gb201));have n7_ := zk.mk ((by rw [hg];exact Nat.ne_of_gt (zai (g := gb199) (o := .cells #[.int .i64 0, .int .i64 0] 24 (0, 0)) (by (with_reducible repeat (first | refine za ?_ _ | refine zf ?_ | refine ze ?_ _));exact BK199.out)) : gb201 ≠ gb199));have n8_ := zk.mk ((by rw [hg];exact Nat.ne_of_lt (zai (g := gb200) (o := .cells #[.int .i64 0, .int .i64 0] 24 (0, 0)) (by (with_reducible repeat (first | refine za ?_ _ | refine zf ?_ | refine ze ?_ _));exact BK200.out)) : gb200 ≠ gb201));have n9_ := zk.mk ((by rw [hg];exact Nat.ne_of_gt (zai (g := gb200) (o := .cells #[.int .i64 0, .int .i64 0] 24 (0, 0)) (by (with_reducible repeat (first | refine za ?_ _ | refine zf ?_ | refine ze ?_ _));exact BK200.out)) : gb201 ≠ gb200));clear BK199;clear BK200;clear HB;have BK199 := n0_;have BK200 := n1_;have HB := n2_;have BK201 := n3_;have GW201 := n4_;have GE201 := n5_;have NB199_201 := n6_;have NB201_199 := n7_;have NB200_201 := n8_;have NB201_200 := n9_;clear n0_ n1_ n2_ n3_ n4_ n5_ n6_ n7_ n8_ n9_;clear hb hbox hg;have hnb14 := NB199_200.out;have hnc14 := NB200_199.out;have hnb15 := NB199_201.out;have hnc15 := NB201_199.out;have hcz16_0 : w13.cell? ⟨gb199, 0, none⟩ = some (.int .i64 0) := (zw BK199.out 0).trans rfl;have hcz16_1 : w13.cell? ⟨gb199, 1, none⟩ = some (.int .i64 0) := (zw BK199.out 1).trans rfl;have hfz16_0 := zt BK199.out 0;have hfz16_1 := zt BK199.out 1;have hnb17 := NB200_201.out;have hnc17 := NB201_200.out;have hcz18_0 : w13.cell? ⟨gb200, 0, none⟩ = some (.int .i64 0) := (zw BK200.out 0).trans rfl;have hcz18_1 : w13.cell? ⟨gb200, 1, none⟩ = some (.int .i64 0) := (zw BK200.out 1).trans rfl;have hfz18_0 := zt BK200.out 0;have hfz18_1 := zt BK200.out 1;have hcz19_0 : w13.cell? ⟨gb201, 0, none⟩ = some (.int .i64 0) := (zw BK201.out 0).trans rfl;have hcz19_1 : w13.cell? ⟨gb201, 1, none⟩ = some (.int .i64 0) := (zw BK201.out 1).trans rfl;have hfz19_0 := zt BK201.out 0;have hfz19_1 := zt BK201.out 1) | ((with_reducible refine zah (f := 13) rfl ?_);refine zbE (some 28) rfl rfl Tryz.func13 (by kernel_rfl) rfl #[.agg #[.int .i64 t193, .int .i64 t194], .agg #[.int .i64 t195, .int .i64 t196], .agg #[.int .i64 t197, .int .i64 t198]] rfl (by (try simp only [List.map_toArray, List.map_cons, List.map_nil]);first | done | rfl | (simp only [List.length_drop, List.length_take];rfl)) ?_;(with_reducible refine (zdi.calls t193 t194 t195 t196 t197 t198 t202 t203 _ A4.out).mono ?_);rintro e w20 ⟨rfl, hb⟩;refine ⟨_, rfl, ?_⟩;have n0_ := zk.mk (zu (g := gb199) (o := .cells #[.int .i64 t193, .int .i64 t194] 24 (0, 0)) (by (with_reducible repeat (first | refine za ?_ _ | refine zf ?_ | refine ze ?_ _));refine zy ?_ NB199_201.out _;(with_reducible repeat (first | refine za ?_ _ | refine zf ?_ | refine ze ?_ _));refine zy ?_ NB199_201.out _;(with_reducible repeat (first | refine za ?_ _ | refine zf ?_ | refine ze ?_ _));refine zy ?_ NB199_200.out _;(with_reducible repeat (first | refine za ?_ _ | refine zf ?_ | refine ze ?_ _));refine zy ?_ NB199_200.out _;(with_reducible repeat (first | refine za ?_ _ | refine zf ?_ | refine ze ?_ _));refine zao (cs := #[.int .i64 t193, .int .i64 0]) ?_ 1 _ rfl;(with_reducible repeat (first | refine za ?_ _ | refine zf ?_ | refine ze ?_ _));refine zao (cs := #[.int .i64 0, .int .i64 0]) ?_ 0 _ rfl;(with_reducible repeat (first | refine za ?_ _ | refine zf ?_ | refine ze ?_ _));exact BK199.out) hb);have n1_ := zk.mk (zu (g := gb200) (o := .cells #[.int .i64 t195, .int .i64 t196] 24 (0, 0)) (by (with_reducible repeat (first | refine za ?_ _ | refine zf ?_ | refine ze ?_ _));refine zy ?_ NB200_201.out _;(with_reducible repeat (first | refine za ?_ _ | refine zf ?_ | refine ze ?_ _));refine zy ?_ NB200_201.out _;(with_reducible repeat (first | refine za ?_ _ | refine zf ?_ | refine ze ?_ _));refine zao (cs := #[.int .i64 t195, .int .i64 0]) ?_ 1 _ rfl;(with_reducible repeat (first | refine za ?_ _ | refine zf ?_ | refine ze ?_ _));refine zao (cs := #[.int .i64 0, .int .i64 0]) ?_ 0 _ rfl;(with_reducible repeat (first | refine za ?_ _ | refine zf ?_ | refine ze ?_ _));refine zy ?_ NB200_199.out _;(with_reducible repeat (first | refine za ?_ _ | refine zf ?_ | refine ze ?_ _));refine zy ?_ NB200_199.out _;(with_reducible repeat (first | refine za ?_ _ | refine zf ?_ | refine ze ?_ _));exact BK200.out) hb);have n2_ := zk.mk (zu (g := gb201) (o := .cells #[.int .i64 t197, .int .i64 t198] 24 (0, 0)) (by (with_reducible repeat (first | refine za ?_ _ | refine zf ?_ | refine ze ?_ _));refine zao (cs := #[.int .i64 t197, .int .i64 0]) ?_ 1 _ rfl;(with_reducible repeat (first | refine za ?_ _ | refine zf ?_ | refine ze ?_ _));refine zao (cs := #[.int .i64 0, .int .i64 0]) ?_ 0 _ rfl;(with_reducible repeat (first | refine za ?_ _ | refine zf ?_ | refine ze ?_ _));refine zy ?_ NB201_200.out _;(with_reducible repeat (first | refine za ?_ _ | refine zf ?_ | refine ze ?_ _));refine zy ?_ NB201_200.out _;(with_reducible repeat (first | refine za ?_ _ | refine zf ?_ | refine ze ?_ _));refine zy ?_ NB201_199.out _;(with_reducible repeat (first | refine za ?_ _ | refine zf ?_ | refine ze ?_ _));refine zy ?_ NB201_199.out _;(with_reducible repeat (first | refine za ?_ _ | refine zf ?_ | refine ze ?_ _));exact BK201.out) hb);have n3_ := zk.mk (zaj (by repeat (first | (with_reducible first | exact HB.out | apply zq | apply zm | apply zo | refine zh ?_ GE199.out | refine zh ?_ GE200.out | refine zh ?_ GE201.out) | exact HB.out)) hb);clear BK199;clear BK200;clear BK201;clear HB;have BK199 := n0_;have BK200 := n1_;have BK201 := n2_;have HB := n3_;clear n0_ n1_ n2_ n3_;(try clear hb);(try clear hb2);(try clear hk);(try clear hi);have hcz21_0 : w20.cell? ⟨gb199, 0, none⟩ = some (.int .i64 t193) := (zw BK199.out 0).trans rfl;have hcz21_1 : w20.cell? ⟨gb199, 1, none⟩ = some (.int .i64 t194) := (zw BK199.out 1).trans rfl;have hfz21_0 := zt BK199.out 0;have hfz21_1 := zt BK199.out 1;have hcz22_0 : w20.cell? ⟨gb200, 0, none⟩ = some (.int .i64 t195) := (zw BK200.out 0).trans rfl;have hcz22_1 : w20.cell? ⟨gb200, 1, none⟩ = some (.int .i64 t196) := (zw BK200.out 1).trans rfl;have hfz22_0 := zt BK200.out 0;have hfz22_1 := zt BK200.out 1;have hcz23_0 : w20.cell? ⟨gb201, 0, none⟩ = some (.int .i64 t197) := (zw BK201.out 0).trans rfl;have hcz23_1 : w20.cell? ⟨gb201, 1, none⟩ = some (.int .i64 t198) := (zw BK201.out 1).trans rfl;have hfz23_0 := zt BK201.out 0;have hfz23_1 := zt BK201.out 1) | ((with_reducible refine zah (f := 14) rfl ?_);refine zbE (some 35) rfl rfl Tryz.func14 (by kernel_rfl) rfl #[.agg #[.int .i64 t193, .int .i64 t194], .agg #[.int .i64 t195, .int .i64 t196], .agg #[.int .i64 t197, .int .i64 t198]] rfl (by (try simp only [List.map_toArray, List.map_cons, List.map_nil]);first | done | rfl | (simp only [List.length_drop, List.length_take];rfl)) ?_;(with_reducible refine (zba.calls t193 t194 t195 t196 t197 t198 t204 t205 t206 _ A5.out).mono ?_);rintro e w24 ⟨rfl, hb⟩;refine ⟨_, rfl, ?_⟩;have n0_ := zk.mk (zu (g := gb199) (o := .cells #[.int .i64 t193, .int .i64 t194] 24 (0, 0)) (by (with_reducible repeat (first | refine za ?_ _ | refine zf ?_ | refine ze ?_ _));exact BK199.out) hb);have n1_ := zk.mk (zu (g := gb200) (o := .cells #[.int .i64 t195, .int .i64 t196] 24 (0, 0)) (by (with_reducible repeat (first | refine za ?_ _ | refine zf ?_ | refine ze ?_ _));exact BK200.out) hb);have n2_ := zk.mk (zu (g := gb201) (o := .cells #[.int .i64 t197, .int .i64 t198] 24 (0, 0)) (by (with_reducible repeat (first | refine za ?_ _ | refine zf ?_ | refine ze ?_ _));exact BK201.out) hb);have n3_ := zk.mk (zaj (by repeat (first | (with_reducible first | exact HB.out | apply zq | apply zm | apply zo | refine zh ?_ GE199.out | refine zh ?_ GE200.out | refine zh ?_ GE201.out) | exact HB.out)) hb);clear BK199;clear BK200;clear BK201;clear HB;have BK199 := n0_;have BK200 := n1_;have BK201 := n2_;have HB := n3_;clear n0_ n1_ n2_ n3_;(try clear hb);(try clear hb2);(try clear hk);(try clear hi)) | ((with_reducible refine zbC (N := 8) rfl ?_);refine zbz ?hg (N := 8) ?hd (cs := #[.int .i64 0, .int .i64 0]) (t := 30) ?hr ?_;(case hd => rfl);(case hg => rfl);(case hr => first | (go_simp;done) | (go_simp;rfl));intro gb207 hg w25 hbox hb;have n0_ := zk.mk (zu (g := gb199) (o := .cells #[.int .i64 t193, .int .i64 t194] 24 (0, 0)) (by (with_reducible repeat (first | refine za ?_ _ | refine zf ?_ | refine ze ?_ _));exact BK199.out) hb);have n1_ := zk.mk (zu (g := gb200) (o := .cells #[.int .i64 t195, .int .i64 t196] 24 (0, 0)) (by (with_reducible repeat (first | refine za ?_ _ | refine zf ?_ | refine ze ?_ _));exact BK200.out) hb);have n2_ := zk.mk (zu (g := gb201) (o := .cells #[.int .i64 t197, .int .i64 t198] 24 (0, 0)) (by (with_reducible repeat (first | refine za ?_ _ | refine zf ?_ | refine ze ?_ _));exact BK201.out) hb);have n3_ := zk.mk (zaj (by repeat (first | (with_reducible first | exact HB.out | apply zq | apply zm | apply zo | refine zh ?_ GE199.out | refine zh ?_ GE200.out | refine zh ?_ GE201.out) | exact HB.out)) hb);have n4_ := zk.mk (hbox);have n5_ := zk.mk ((by rw [hg];exact (zas (by repeat (first | (with_reducible first | exact HB.out | apply zq | apply zm | apply zo | refine zh ?_ GE199.out | refine zh ?_ GE200.out | refine zh ?_ GE201.out) | exact HB.out))) : w.heap.size <= gb207));have n6_ := zk.mk ((by rw [hg];exact (zas (by repeat (first | (with_reducible first | exact HB.out | apply zq | apply zm | apply zo | refine zh ?_ GE199.out | refine zh ?_ GE200.out | refine zh ?_ GE201.out) | exact HB.out))) : w.heap.size <= gb207));have n7_ := zk.mk ((by rw [hg];exact Nat.ne_of_lt (zai (g := gb199) (o := .cells #[.int .i64 t193, .int .i64 t194] 24 (0, 0)) (by (with_reducible repeat (first | refine za ?_ _ | refine zf ?_ | refine ze ?_ _));exact BK199.out)) : gb199 ≠ gb207));have n8_ := zk.mk ((by rw [hg];exact Nat.ne_of_gt (zai (g := gb199) (o := .cells #[.int .i64 t193, .int .i64 t194] 24 (0, 0)) (by (with_reducible repeat (first | refine za ?_ _ | refine zf ?_ | refine ze ?_ _));exact BK199.out)) : gb207 ≠ gb199));have n9_ := zk.mk ((by rw [hg];exact Nat.ne_of_lt (zai (g := gb200) (o := .cells #[.int .i64 t195, .int .i64 t196] 24 (0, 0)) (by (with_reducible repeat (first | refine za ?_ _ | refine zf ?_ | refine ze ?_ _));exact BK200.out)) : gb200 ≠ gb207));have n10_ := zk.mk ((by rw [hg];exact Nat.ne_of_gt (zai (g := gb200) (o := .cells #[.int .i64 t195, .int .i64 t196] 24 (0, 0)) (by (with_reducible repeat (first | refine za ?_ _ | refine zf ?_ | refine ze ?_ _));exact BK200.out)) : gb207 ≠ gb200));have n11_ := zk.mk ((by rw [hg];exact Nat.ne_of_lt (zai (g := gb201) (o := .cells #[.int .i64 t197, .int .i64 t198] 24 (0, 0)) (by (with_reducible repeat (first | refine za ?_ _ | refine zf ?_ | refine ze ?_ _));exact BK201.out)) : gb201 ≠ gb207));have n12_ := zk.mk ((by rw [hg];exact Nat.ne_of_gt (zai (g := gb201) (o := .cells #[.int .i64 t197, .int .i64 t198] 24 (0, 0)) (by (with_reducible repeat (first | refine za ?_ _ | refine zf ?_ | refine ze ?_ _));exact BK201.out)) : gb207 ≠ gb201));clear BK199;clear BK200;clear BK201;clear HB;have BK199 := n0_;have BK200 := n1_;have BK201 := n2_;have HB := n3_;have BK207 := n4_;have GW207 := n5_;have GE207 := n6_;have NB199_207 := n7_;have NB207_199 := n8_;have NB200_207 := n9_;have NB207_200 := n10_;have NB201_207 := n11_;have NB207_201 := n12_;clear n0_ n1_ n2_ n3_ n4_ n5_ n6_ n7_ n8_ n9_ n10_ n11_ n12_;clear hb hbox hg;have hnb26 := NB207_199.out;have hnc26 := NB199_207.out;have hnb27 := NB207_200.out;have hnc27 := NB200_207.out;have hnb28 := NB207_201.out;have hnc28 := NB201_207.out;have hcz29_0 : w25.cell? ⟨gb207, 0, none⟩ = some (.int .i64 0) := (zw BK207.out 0).trans rfl;have hcz29_1 : w25.cell? ⟨gb207, 1, none⟩ = some (.int .i64 0) := (zw BK207.out 1).trans rfl;have hfz29_0 := zt BK207.out 0;have hfz29_1 := zt BK207.out 1;have hcz30_0 : w25.cell? ⟨gb199, 0, none⟩ = some (.int .i64 t193) := (zw BK199.out 0).trans rfl;have hcz30_1 : w25.cell? ⟨gb199, 1, none⟩ = some (.int .i64 t194) := (zw BK199.out 1).trans rfl;have hfz30_0 := zt BK199.out 0;have hfz30_1 := zt BK199.out 1;have hcz31_0 : w25.cell? ⟨gb200, 0, none⟩ = some (.int .i64 t195) := (zw BK200.out 0).trans rfl;have hcz31_1 : w25.cell? ⟨gb200, 1, none⟩ = some (.int .i64 t196) := (zw BK200.out 1).trans rfl;have hfz31_0 := zt BK200.out 0;have hfz31_1 := zt BK200.out 1;have hcz32_0 : w25.cell? ⟨gb201, 0, none⟩ = some (.int .i64 t197) := (zw BK201.out 0).trans rfl;have hcz32_1 : w25.cell? ⟨gb201, 1, none⟩ = some (.int .i64 t198) := (zw BK201.out 1).trans rfl;have hfz32_0 := zt BK201.out 0;have hfz32_1 := zt BK201.out 1) | ((with_reducible refine zah (f := 15) rfl ?_);refine zbE (some 42) rfl rfl Tryz.func15 (by kernel_rfl) rfl #[.agg #[.int .i64 t193, .int .i64 t194], .agg #[.int .i64 t195, .int .i64 t196], .agg #[.int .i64 t197, .int .i64 t198]] rfl (by (try simp only [List.map_toArray, List.map_cons, List.map_nil]);first | done | rfl | (simp only [List.length_drop, List.length_take];rfl)) ?_;(with_reducible refine (zbM.calls t193 t194 t195 t196 t197 t198 t208 t209 t210 _ A6.out).mono ?_);rintro e w33 ⟨rfl, hb⟩;refine ⟨_, rfl, ?_⟩;have n0_ := zk.mk (zu (g := gb199) (o := .cells #[.int .i64 t193, .int .i64 t194] 24 (0, 0)) (by (with_reducible repeat (first | refine za ?_ _ | refine zf ?_ | refine ze ?_ _));refine zy ?_ NB199_207.out _;(with_reducible repeat (first | refine za ?_ _ | refine zf ?_ | refine ze ?_ _));refine zy ?_ NB199_207.out _;(with_reducible repeat (first | refine za ?_ _ | refine zf ?_ | refine ze ?_ _));exact BK199.out) hb);have n1_ := zk.mk (zu (g := gb200) (o := .cells #[.int .i64 t195, .int .i64 t196] 24 (0, 0)) (by (with_reducible repeat (first | refine za ?_ _ | refine zf ?_ | refine ze ?_ _));refine zy ?_ NB200_207.out _;(with_reducible repeat (first | refine za ?_ _ | refine zf ?_ | refine ze ?_ _));refine zy ?_ NB200_207.out _;(with_reducible repeat (first | refine za ?_ _ | refine zf ?_ | refine ze ?_ _));exact BK200.out) hb);have n2_ := zk.mk (zu (g := gb201) (o := .cells #[.int .i64 t197, .int .i64 t198] 24 (0, 0)) (by (with_reducible repeat (first | refine za ?_ _ | refine zf ?_ | refine ze ?_ _));refine zy ?_ NB201_207.out _;(with_reducible repeat (first | refine za ?_ _ | refine zf ?_ | refine ze ?_ _));refine zy ?_ NB201_207.out _;(with_reducible repeat (first | refine za ?_ _ | refine zf ?_ | refine ze ?_ _));exact BK201.out) hb);have n3_ := zk.mk (zu (g := gb207) (o := .cells #[.int .i64 t204, .int .i64 t205] 30 (0, 0)) (by (with_reducible repeat (first | refine za ?_ _ | refine zf ?_ | refine ze ?_ _));refine zao (cs := #[.int .i64 t204, .int .i64 0]) ?_ 1 _ rfl;(with_reducible repeat (first | refine za ?_ _ | refine zf ?_ | refine ze ?_ _));refine zao (cs := #[.int .i64 0, .int .i64 0]) ?_ 0 _ rfl;(with_reducible repeat (first | refine za ?_ _ | refine zf ?_ | refine ze ?_ _));exact BK207.out) hb);have n4_ := zk.mk (zaj (by repeat (first | (with_reducible first | exact HB.out | apply zq | apply zm | apply zo | refine zh ?_ GE199.out | refine zh ?_ GE200.out | refine zh ?_ GE201.out | refine zh ?_ GE207.out) | exact HB.out)) hb);clear BK199;clear BK200;clear BK201;clear BK207;clear HB;have BK199 := n0_;have BK200 := n1_;have BK201 := n2_;have BK207 := n3_;have HB := n4_;clear n0_ n1_ n2_ n3_ n4_;(try clear hb);(try clear hb2);(try clear hk);(try clear hi)) | ((with_reducible refine zbC (N := 10) rfl ?_);refine zbz ?hg (N := 10) ?hd (cs := #[.int .i64 0, .int .i64 0]) (t := 30) ?hr ?_;(case hd => rfl);(case hg => rfl);(case hr => first | (go_simp;done) | (go_simp;rfl));intro gb211 hg w34 hbox hb;have n0_ := zk.mk (zu (g := gb199) (o := .cells #[.int .i64 t193, .int .i64 t194] 24 (0, 0)) (by (with_reducible repeat (first | refine za ?_ _ | refine zf ?_ | refine ze ?_ _));exact BK199.out) hb);have n1_ := zk.mk (zu (g := gb200) (o := .cells #[.int .i64 t195, .int .i64 t196] 24 (0, 0)) (by (with_reducible repeat (first | refine za ?_ _ | refine zf ?_ | refine ze ?_ _));exact BK200.out) hb);have n2_ := zk.mk (zu (g := gb201) (o := .cells #[.int .i64 t197, .int .i64 t198] 24 (0, 0)) (by (with_reducible repeat (first | refine za ?_ _ | refine zf ?_ | refine ze ?_ _));exact BK201.out) hb);have n3_ := zk.mk (zu (g := gb207) (o := .cells #[.int .i64 t204, .int .i64 t205] 30 (0, 0)) (by (with_reducible repeat (first | refine za ?_ _ | refine zf ?_ | refine ze ?_ _));exact BK207.out) hb);have n4_ := zk.mk (zaj (by repeat (first | (with_reducible first | exact HB.out | apply zq | apply zm | apply zo | refine zh ?_ GE199.out | refine zh ?_ GE200.out | refine zh ?_ GE201.out | refine zh ?_ GE207.out) | exact HB.out)) hb);have n5_ := zk.mk (hbox);have n6_ := zk.mk ((by rw [hg];exact (zas (by repeat (first | (with_reducible first | exact HB.out | apply zq | apply zm | apply zo | refine zh ?_ GE199.out | refine zh ?_ GE200.out | refine zh ?_ GE201.out | refine zh ?_ GE207.out) | exact HB.out))) : w.heap.size <= gb211));have n7_ := zk.mk ((by rw [hg];exact (zas (by repeat (first | (with_reducible first | exact HB.out | apply zq | apply zm | apply zo | refine zh ?_ GE199.out | refine zh ?_ GE200.out | refine zh ?_ GE201.out | refine zh ?_ GE207.out) | exact HB.out))) : w.heap.size <= gb211));have n8_ := zk.mk ((by rw [hg];exact Nat.ne_of_lt (zai (g := gb199) (o := .cells #[.int .i64 t193, .int .i64 t194] 24 (0, 0)) (by (with_reducible repeat (first | refine za ?_ _ | refine zf ?_ | refine ze ?_ _));exact BK199.out)) : gb199 ≠ gb211));have n9_ := zk.mk ((by rw [hg];exact Nat.ne_of_gt (zai (g := gb199) (o := .cells #[.int .i64 t193, .int .i64 t194] 24 (0, 0)) (by (with_reducible repeat (first | refine za ?_ _ | refine zf ?_ | refine ze ?_ _));exact BK199.out)) : gb211 ≠ gb199));have n10_ := zk.mk ((by rw [hg];exact Nat.ne_of_lt (zai (g := gb200) (o := .cells #[.int .i64 t195, .int .i64 t196] 24 (0, 0)) (by (with_reducible repeat (first | refine za ?_ _ | refine zf ?_ | refine ze ?_ _));exact BK200.out)) : gb200 ≠ gb211));have n11_ := zk.mk ((by rw [hg];exact Nat.ne_of_gt (zai (g := gb200) (o := .cells #[.int .i64 t195, .int .i64 t196] 24 (0, 0)) (by (with_reducible repeat (first | refine za ?_ _ | refine zf ?_ | refine ze ?_ _));exact BK200.out)) : gb211 ≠ gb200));have n12_ := zk.mk ((by rw [hg];exact Nat.ne_of_lt (zai (g := gb201) (o := .cells #[.int .i64 t197, .int .i64 t198] 24 (0, 0)) (by (with_reducible repeat (first | refine za ?_ _ | refine zf ?_ | refine ze ?_ _));exact BK201.out)) : gb201 ≠ gb211));have n13_ := zk.mk ((by rw [hg];exact Nat.ne_of_gt (zai (g := gb201) (o := .cells #[.int .i64 t197, .int .i64 t198] 24 (0, 0)) (by (with_reducible repeat (first | refine za ?_ _ | refine zf ?_ | refine ze ?_ _));exact BK201.out)) : gb211 ≠ gb201));have n14_ := zk.mk ((by rw [hg];exact Nat.ne_of_lt (zai (g := gb207) (o := .cells #[.int .i64 t204, .int .i64 t205] 30 (0, 0)) (by (with_reducible repeat (first | refine za ?_ _ | refine zf ?_ | refine ze ?_ _));exact BK207.out)) : gb207 ≠ gb211));have n15_ := zk.mk ((by rw [hg];exact Nat.ne_of_gt (zai (g := gb207) (o := .cells #[.int .i64 t204, .int .i64 t205] 30 (0, 0)) (by (with_reducible repeat (first | refine za ?_ _ | refine zf ?_ | refine ze ?_ _));exact BK207.out)) : gb211 ≠ gb207));clear BK199;clear BK200;clear BK201;clear BK207;clear HB;have BK199 := n0_;have BK200 := n1_;have BK201 := n2_;have BK207 := n3_;have HB := n4_;have BK211 := n5_;have GW211 := n6_;have GE211 := n7_;have NB199_211 := n8_;have NB211_199 := n9_;have NB200_211 := n10_;have NB211_200 := n11_;have NB201_211 := n12_;have NB211_201 := n13_;have NB207_211 := n14_;have NB211_207 := n15_;clear n0_ n1_ n2_ n3_ n4_ n5_ n6_ n7_ n8_ n9_ n10_ n11_ n12_ n13_ n14_ n15_;clear hb hbox hg;have hnb35 := NB211_199.out;have hnc35 := NB199_211.out;have hnb36 := NB211_200.out;have hnc36 := NB200_211.out;have hnb37 := NB211_201.out;have hnc37 := NB201_211.out;have hnb38 := NB211_207.out;have hnc38 := NB207_211.out;have hcz39_0 : w34.cell? ⟨gb211, 0, none⟩ = some (.int .i64 0) := (zw BK211.out 0).trans rfl;have hcz39_1 : w34.cell? ⟨gb211, 1, none⟩ = some (.int .i64 0) := (zw BK211.out 1).trans rfl;have hfz39_0 := zt BK211.out 0;have hfz39_1 := zt BK211.out 1) | ((with_reducible refine zah (f := 16) rfl ?_);refine zbE (some 45) rfl rfl Tryz.func16 (by kernel_rfl) rfl #[.int .i64 0] rfl (by (try simp only [List.map_toArray, List.map_cons, List.map_nil]);first | done | rfl | (simp only [List.length_drop, List.length_take];rfl)) ?_;(with_reducible refine (zbV.calls 0 t212 t213 _ A7.out).mono ?_);rintro e w40 ⟨rfl, hb⟩;refine ⟨_, rfl, ?_⟩;have n0_ := zk.mk (zu (g := gb199) (o := .cells #[.int .i64 t193, .int .i64 t194] 24 (0, 0)) (by (with_reducible repeat (first | refine za ?_ _ | refine zf ?_ | refine ze ?_ _));refine zy ?_ NB199_211.out _;(with_reducible repeat (first | refine za ?_ _ | refine zf ?_ | refine ze ?_ _));refine zy ?_ NB199_211.out _;(with_reducible repeat (first | refine za ?_ _ | refine zf ?_ | refine ze ?_ _));exact BK199.out) hb);have n1_ := zk.mk (zu (g := gb200) (o := .cells #[.int .i64 t195, .int .i64 t196] 24 (0, 0)) (by (with_reducible repeat (first | refine za ?_ _ | refine zf ?_ | refine ze ?_ _));refine zy ?_ NB200_211.out _;(with_reducible repeat (first | refine za ?_ _ | refine zf ?_ | refine ze ?_ _));refine zy ?_ NB200_211.out _;(with_reducible repeat (first | refine za ?_ _ | refine zf ?_ | refine ze ?_ _));exact BK200.out) hb);have n2_ := zk.mk (zu (g := gb201) (o := .cells #[.int .i64 t197, .int .i64 t198] 24 (0, 0)) (by (with_reducible repeat (first | refine za ?_ _ | refine zf ?_ | refine ze ?_ _));refine zy ?_ NB201_211.out _;(with_reducible repeat (first | refine za ?_ _ | refine zf ?_ | refine ze ?_ _));refine zy ?_ NB201_211.out _;(with_reducible repeat (first | refine za ?_ _ | refine zf ?_ | refine ze ?_ _));exact BK201.out) hb);have n3_ := zk.mk (zu (g := gb207) (o := .cells #[.int .i64 t204, .int .i64 t205] 30 (0, 0)) (by (with_reducible repeat (first | refine za ?_ _ | refine zf ?_ | refine ze ?_ _));refine zy ?_ NB207_211.out _;(with_reducible repeat (first | refine za ?_ _ | refine zf ?_ | refine ze ?_ _));refine zy ?_ NB207_211.out _;(with_reducible repeat (first | refine za ?_ _ | refine zf ?_ | refine ze ?_ _));exact BK207.out) hb);have n4_ := zk.mk (zu (g := gb211) (o := .cells #[.int .i64 t208, .int .i64 t209] 30 (0, 0)) (by (with_reducible repeat (first | refine za ?_ _ | refine zf ?_ | refine ze ?_ _));refine zao (cs := #[.int .i64 t208, .int .i64 0]) ?_ 1 _ rfl;(with_reducible repeat (first | refine za ?_ _ | refine zf ?_ | refine ze ?_ _));refine zao (cs := #[.int .i64 0, .int .i64 0]) ?_ 0 _ rfl;(with_reducible repeat (first | refine za ?_ _ | refine zf ?_ | refine ze ?_ _));exact BK211.out) hb);have n5_ := zk.mk (zaj (by repeat (first | (with_reducible first | exact HB.out | apply zq | apply zm | apply zo | refine zh ?_ GE199.out | refine zh ?_ GE200.out | refine zh ?_ GE201.out | refine zh ?_ GE207.out | refine zh ?_ GE211.out) | exact HB.out)) hb);clear BK199;clear BK200;clear BK201;clear BK207;clear BK211;clear HB;have BK199 := n0_;have BK200 := n1_;have BK201 := n2_;have BK207 := n3_;have BK211 := n4_;have HB := n5_;clear n0_ n1_ n2_ n3_ n4_ n5_;(try clear hb);(try clear hb2);(try clear hk);(try clear hi)) | ((with_reducible refine zbC (N := 12) rfl ?_);refine zbz ?hg (N := 12) ?hd (cs := #[.int .i64 0, .int .i64 0]) (t := 30) ?hr ?_;(case hd => rfl);(case hg => rfl);(case hr => first | (go_simp;done) | (go_simp;rfl));intro gb214 hg w41 hbox hb;have n0_ := zk.mk (zu (g := gb199) (o := .cells #[.int .i64 t193, .int .i64 t194] 24 (0, 0)) (by (with_reducible repeat (first | refine za ?_ _ | refine zf ?_ | refine ze ?_ _));exact BK199.out) hb);have n1_ := zk.mk (zu (g := gb200) (o := .cells #[.int .i64 t195, .int .i64 t196] 24 (0, 0)) (by (with_reducible repeat (first | refine za ?_ _ | refine zf ?_ | refine ze ?_ _));exact BK200.out) hb);have n2_ := zk.mk (zu (g := gb201) (o := .cells #[.int .i64 t197, .int .i64 t198] 24 (0, 0)) (by (with_reducible repeat (first | refine za ?_ _ | refine zf ?_ | refine ze ?_ _));exact BK201.out) hb);have n3_ := zk.mk (zu (g := gb207) (o := .cells #[.int .i64 t204, .int .i64 t205] 30 (0, 0)) (by (with_reducible repeat (first | refine za ?_ _ | refine zf ?_ | refine ze ?_ _));exact BK207.out) hb);have n4_ := zk.mk (zu (g := gb211) (o := .cells #[.int .i64 t208, .int .i64 t209] 30 (0, 0)) (by (with_reducible repeat (first | refine za ?_ _ | refine zf ?_ | refine ze ?_ _));exact BK211.out) hb);have n5_ := zk.mk (zaj (by repeat (first | (with_reducible first | exact HB.out | apply zq | apply zm | apply zo | refine zh ?_ GE199.out | refine zh ?_ GE200.out | refine zh ?_ GE201.out | refine zh ?_ GE207.out | refine zh ?_ GE211.out) | exact HB.out)) hb);have n6_ := zk.mk (hbox);have n7_ := zk.mk ((by rw [hg];exact (zas (by repeat (first | (with_reducible first | exact HB.out | apply zq | apply zm | apply zo | refine zh ?_ GE199.out | refine zh ?_ GE200.out | refine zh ?_ GE201.out | refine zh ?_ GE207.out | refine zh ?_ GE211.out) | exact HB.out))) : w.heap.size <= gb214));have n8_ := zk.mk ((by rw [hg];exact (zas (by repeat (first | (with_reducible first | exact HB.out | apply zq | apply zm | apply zo | refine zh ?_ GE199.out | refine zh ?_ GE200.out | refine zh ?_ GE201.out | refine zh ?_ GE207.out | refine zh ?_ GE211.out) | exact HB.out))) : w.heap.size <= gb214));have n9_ := zk.mk ((by rw [hg];exact Nat.ne_of_lt (zai (g := gb199) (o := .cells #[.int .i64 t193, .int .i64 t194] 24 (0, 0)) (by (with_reducible repeat (first | refine za ?_ _ | refine zf ?_ | refine ze ?_ _));exact BK199.out)) : gb199 ≠ gb214));have n10_ := zk.mk ((by rw [hg];exact Nat.ne_of_gt (zai (g := gb199) (o := .cells #[.int .i64 t193, .int .i64 t194] 24 (0, 0)) (by (with_reducible repeat (first | refine za ?_ _ | refine zf ?_ | refine ze ?_ _));exact BK199.out)) : gb214 ≠ gb199));have n11_ := zk.mk ((by rw [hg];exact Nat.ne_of_lt (zai (g := gb200) (o := .cells #[.int .i64 t195, .int .i64 t196] 24 (0, 0)) (by (with_reducible repeat (first | refine za ?_ _ | refine zf ?_ | refine ze ?_ _));exact BK200.out)) : gb200 ≠ gb214));have n12_ := zk.mk ((by rw [hg];exact Nat.ne_of_gt (zai (g := gb200) (o := .cells #[.int .i64 t195, .int .i64 t196] 24 (0, 0)) (by (with_reducible repeat (first | refine za ?_ _ | refine zf ?_ | refine ze ?_ _));exact BK200.out)) : gb214 ≠ gb200));have n13_ := zk.mk ((by rw [hg];exact Nat.ne_of_lt (zai (g := gb201) (o := .cells #[.int .i64 t197, .int .i64 t198] 24 (0, 0)) (by (with_reducible repeat (first | refine za ?_ _ | refine zf ?_ | refine ze ?_ _));exact BK201.out)) : gb201 ≠ gb214));have n14_ := zk.mk ((by rw [hg];exact Nat.ne_of_gt (zai (g := gb201) (o := .cells #[.int .i64 t197, .int .i64 t198] 24 (0, 0)) (by (with_reducible repeat (first | refine za ?_ _ | refine zf ?_ | refine ze ?_ _));exact BK201.out)) : gb214 ≠ gb201));have n15_ := zk.mk ((by rw [hg];exact Nat.ne_of_lt (zai (g := gb207) (o := .cells #[.int .i64 t204, .int .i64 t205] 30 (0, 0)) (by (with_reducible repeat (first | refine za ?_ _ | refine zf ?_ | refine ze ?_ _));exact BK207.out)) : gb207 ≠ gb214));have n16_ := zk.mk ((by rw [hg];exact Nat.ne_of_gt (zai (g := gb207) (o := .cells #[.int .i64 t204, .int .i64 t205] 30 (0, 0)) (by (with_reducible repeat (first | refine za ?_ _ | refine zf ?_ | refine ze ?_ _));exact BK207.out)) : gb214 ≠ gb207));have n17_ := zk.mk ((by rw [hg];exact Nat.ne_of_lt (zai (g := gb211) (o := .cells #[.int .i64 t208, .int .i64 t209] 30 (0, 0)) (by (with_reducible repeat (first | refine za ?_ _ | refine zf ?_ | refine ze ?_ _));exact BK211.out)) : gb211 ≠ gb214));have n18_ := zk.mk ((by rw [hg];exact Nat.ne_of_gt (zai (g := gb211) (o := .cells #[.int .i64 t208, .int .i64 t209] 30 (0, 0)) (by (with_reducible repeat (first | refine za ?_ _ | refine zf ?_ | refine ze ?_ _));exact BK211.out)) : gb214 ≠ gb211));clear BK199;clear BK200;clear BK201;clear BK207;clear BK211;clear HB;have BK199 := n0_;have BK200 := n1_;have BK201 := n2_;have BK207 := n3_;have BK211 := n4_;have HB := n5_;have BK214 := n6_;have GW214 := n7_;have GE214 := n8_;have NB199_214 := n9_;have NB214_199 := n10_;have NB200_214 := n11_;have NB214_200 := n12_;have NB201_214 := n13_;have NB214_201 := n14_;have NB207_214 := n15_;have NB214_207 := n16_;have NB211_214 := n17_;have NB214_211 := n18_;clear n0_ n1_ n2_ n3_ n4_ n5_ n6_ n7_ n8_ n9_ n10_ n11_ n12_ n13_ n14_ n15_ n16_ n17_ n18_;clear hb hbox hg;have hnb42 := NB214_199.out;have hnc42 := NB199_214.out;have hnb43 := NB214_200.out;have hnc43 := NB200_214.out;have hnb44 := NB214_201.out;have hnc44 := NB201_214.out;have hnb45 := NB214_207.out;have hnc45 := NB207_214.out;have hnb46 := NB214_211.out;have hnc46 := NB211_214.out;have hcz47_0 : w41.cell? ⟨gb214, 0, none⟩ = some (.int .i64 0) := (zw BK214.out 0).trans rfl;have hcz47_1 : w41.cell? ⟨gb214, 1, none⟩ = some (.int .i64 0) := (zw BK214.out 1).trans rfl;have hfz47_0 := zt BK214.out 0;have hfz47_1 := zt BK214.out 1))
      (try simp only [Act.put, List.setIfInBounds_toArray, List.set_cons_zero, List.set_cons_succ])
      go_cut [69] (fun v69 wc => ∃ (kq : Nat) (x69_8 : Bool), v69 = .bool x69_8 /\ zk (zD.j0 kq t202 t210 x69_8 t193 t194 t195 t196 t208 t209 t212 t213 = some r) /\ zk (kq <= k) /\ zk (wc.heap[gb199]? = some (.cells #[.int .i64 t193, .int .i64 t194] 24 (0, 0))) /\ zk (wc.heap[gb200]? = some (.cells #[.int .i64 t195, .int .i64 t196] 24 (0, 0))) /\ zk (wc.heap[gb201]? = some (.cells #[.int .i64 t197, .int .i64 t198] 24 (0, 0))) /\ zk (wc.heap[gb207]? = some (.cells #[.int .i64 t204, .int .i64 t205] 30 (0, 0))) /\ zk (wc.heap[gb211]? = some (.cells #[.int .i64 t208, .int .i64 t209] 30 (0, 0))) /\ zk (wc.heap[gb214]? = some (.cells #[.int .i64 t212, .int .i64 t213] 30 (0, 0))) /\ zk (Below w.heap.size w wc))
      case first =>
        have H := HC9.out
        clear HC9
        by_cases c48 : t206 = 0
        · rw [if_pos c48] at H
          have c48b0 : (t206 == 0) = true := beq_iff_eq.mpr c48
          have c48b1 : (t206 != 0) = false := bne_eq_false_iff_eq.mpr c48
          clear c48
          (first | rw [c48b0] | (simp only [i64_w, i32_w];rw [c48b0]) | skip)
          by_cases c49 : t202 = 1
          · rw [if_pos c49] at H
            have c49b0 : (t202 == 1) = true := beq_iff_eq.mpr c49
            have c49b1 : (t202 != 1) = false := bne_eq_false_iff_eq.mpr c49
            clear c49
            replace H := Option.bind_eq_some_iff.mp H
            obtain ⟨t215, A500, H⟩ := H
            replace H : (if t215 = 1 then (zD.j0 k t202 t210 true t193 t194 t195 t196 t208 t209 t212 t213) else (if t202 = 0 then ((zaq.f t212 t213 t204 t205).bind fun t216 => (zD.j0 k t202 t210 (t216 == 1) t193 t194 t195 t196 t208 t209 t212 t213)) else (zD.j0 k t202 t210 false t193 t194 t195 t196 t208 t209 t212 t213))) = some r := H
            have A50 := zk.mk A500
            clear A500
            by_cases c51 : t215 = 1
            · rw [if_pos c51] at H
              have c51b0 : (t215 == 1) = true := beq_iff_eq.mpr c51
              have c51b1 : (t215 != 1) = false := bne_eq_false_iff_eq.mpr c51
              clear c51
              have H' := zk.mk H
              clear H
              have hnb52 := NB207_199.out
              have hnc52 := NB199_207.out
              have hnb53 := NB207_200.out
              have hnc53 := NB200_207.out
              have hnb54 := NB207_201.out
              have hnc54 := NB201_207.out
              have hnb55 := NB207_211.out
              have hnc55 := NB211_207.out
              have hnb56 := NB207_214.out
              have hnc56 := NB214_207.out
              have hcz57_0 : w41.cell? ⟨gb207, 0, none⟩ = some (.int .i64 t204) := (zw BK207.out 0).trans rfl
              have hcz57_1 : w41.cell? ⟨gb207, 1, none⟩ = some (.int .i64 t205) := (zw BK207.out 1).trans rfl
              have hfz57_0 := zt BK207.out 0
              have hfz57_1 := zt BK207.out 1
              have hnb58 := NB214_199.out
              have hnc58 := NB199_214.out
              have hnb59 := NB214_200.out
              have hnc59 := NB200_214.out
              have hnb60 := NB214_201.out
              have hnc60 := NB201_214.out
              have hnb61 := NB214_211.out
              have hnc61 := NB211_214.out
              have hcz62_0 : w41.cell? ⟨gb214, 0, none⟩ = some (.int .i64 0) := (zw BK214.out 0).trans rfl
              have hcz62_1 : w41.cell? ⟨gb214, 1, none⟩ = some (.int .i64 0) := (zw BK214.out 1).trans rfl
              have hfz62_0 := zt BK214.out 0
              have hfz62_1 := zt BK214.out 1
              go_wp2_with (first | (go_at_call 17;(with_reducible refine (zaq.calls t204 t205 t212 t213 t215 _ A50.out).mono ?_);rintro e w63 ⟨rfl, hb⟩;have n0_ := zk.mk (zu (g := gb199) (o := .cells #[.int .i64 t193, .int .i64 t194] 24 (0, 0)) (by (with_reducible repeat (first | refine za ?_ _ | refine zf ?_ | refine ze ?_ _));refine zy ?_ NB199_214.out _;(with_reducible repeat (first | refine za ?_ _ | refine zf ?_ | refine ze ?_ _));refine zy ?_ NB199_214.out _;(with_reducible repeat (first | refine za ?_ _ | refine zf ?_ | refine ze ?_ _));exact BK199.out) hb);have n1_ := zk.mk (zu (g := gb200) (o := .cells #[.int .i64 t195, .int .i64 t196] 24 (0, 0)) (by (with_reducible repeat (first | refine za ?_ _ | refine zf ?_ | refine ze ?_ _));refine zy ?_ NB200_214.out _;(with_reducible repeat (first | refine za ?_ _ | refine zf ?_ | refine ze ?_ _));refine zy ?_ NB200_214.out _;(with_reducible repeat (first | refine za ?_ _ | refine zf ?_ | refine ze ?_ _));exact BK200.out) hb);have n2_ := zk.mk (zu (g := gb201) (o := .cells #[.int .i64 t197, .int .i64 t198] 24 (0, 0)) (by (with_reducible repeat (first | refine za ?_ _ | refine zf ?_ | refine ze ?_ _));refine zy ?_ NB201_214.out _;(with_reducible repeat (first | refine za ?_ _ | refine zf ?_ | refine ze ?_ _));refine zy ?_ NB201_214.out _;(with_reducible repeat (first | refine za ?_ _ | refine zf ?_ | refine ze ?_ _));exact BK201.out) hb);have n3_ := zk.mk (zu (g := gb207) (o := .cells #[.int .i64 t204, .int .i64 t205] 30 (0, 0)) (by (with_reducible repeat (first | refine za ?_ _ | refine zf ?_ | refine ze ?_ _));refine zy ?_ NB207_214.out _;(with_reducible repeat (first | refine za ?_ _ | refine zf ?_ | refine ze ?_ _));refine zy ?_ NB207_214.out _;(with_reducible repeat (first | refine za ?_ _ | refine zf ?_ | refine ze ?_ _));exact BK207.out) hb);have n4_ := zk.mk (zu (g := gb211) (o := .cells #[.int .i64 t208, .int .i64 t209] 30 (0, 0)) (by (with_reducible repeat (first | refine za ?_ _ | refine zf ?_ | refine ze ?_ _));refine zy ?_ NB211_214.out _;(with_reducible repeat (first | refine za ?_ _ | refine zf ?_ | refine ze ?_ _));refine zy ?_ NB211_214.out _;(with_reducible repeat (first | refine za ?_ _ | refine zf ?_ | refine ze ?_ _));exact BK211.out) hb);have n5_ := zk.mk (zu (g := gb214) (o := .cells #[.int .i64 t212, .int .i64 t213] 30 (0, 0)) (by (with_reducible repeat (first | refine za ?_ _ | refine zf ?_ | refine ze ?_ _));refine zao (cs := #[.int .i64 t212, .int .i64 0]) ?_ 1 _ rfl;(with_reducible repeat (first | refine za ?_ _ | refine zf ?_ | refine ze ?_ _));refine zao (cs := #[.int .i64 0, .int .i64 0]) ?_ 0 _ rfl;(with_reducible repeat (first | refine za ?_ _ | refine zf ?_ | refine ze ?_ _));exact BK214.out) hb);have n6_ := zk.mk (zaj (by repeat (first | (with_reducible first | exact HB.out | apply zq | apply zm | apply zo | refine zh ?_ GE199.out | refine zh ?_ GE200.out | refine zh ?_ GE201.out | refine zh ?_ GE207.out | refine zh ?_ GE211.out | refine zh ?_ GE214.out) | exact HB.out)) hb);clear BK199;clear BK200;clear BK201;clear BK207;clear BK211;clear BK214;clear HB;have BK199 := n0_;have BK200 := n1_;have BK201 := n2_;have BK207 := n3_;have BK211 := n4_;have BK214 := n5_;have HB := n6_;clear n0_ n1_ n2_ n3_ n4_ n5_ n6_;(try clear hb);(try clear hb2);(try clear hk);(try clear hi)))
              go_meet
              case rel => exact ⟨_, (true), (by first | rfl | (simp;done) | (simp [*];done)), H', ⟨by first | omega | exact Nat.le_refl _⟩, ⟨by (with_reducible repeat (first | refine za ?_ _ | refine zf ?_ | refine ze ?_ _));exact BK199.out⟩, ⟨by (with_reducible repeat (first | refine za ?_ _ | refine zf ?_ | refine ze ?_ _));exact BK200.out⟩, ⟨by (with_reducible repeat (first | refine za ?_ _ | refine zf ?_ | refine ze ?_ _));exact BK201.out⟩, ⟨by (with_reducible repeat (first | refine za ?_ _ | refine zf ?_ | refine ze ?_ _));exact BK207.out⟩, ⟨by (with_reducible repeat (first | refine za ?_ _ | refine zf ?_ | refine ze ?_ _));exact BK211.out⟩, ⟨by (with_reducible repeat (first | refine za ?_ _ | refine zf ?_ | refine ze ?_ _));exact BK214.out⟩, ⟨by repeat (first | (with_reducible first | exact HB.out | apply zq | apply zm | apply zo | refine zh ?_ GE199.out | refine zh ?_ GE200.out | refine zh ?_ GE201.out | refine zh ?_ GE207.out | refine zh ?_ GE211.out | refine zh ?_ GE214.out) | exact HB.out)⟩⟩
            · rw [if_neg c51] at H
              have c51b0 : (t215 == 1) = false := beq_eq_false_iff_ne.mpr c51
              have c51b1 : (t215 != 1) = true := bne_iff_ne.mpr c51
              by_cases c64 : t202 = 0
              · rw [if_pos c64] at H
                have c64b0 : (t202 == 0) = true := beq_iff_eq.mpr c64
                have c64b1 : (t202 != 0) = false := bne_eq_false_iff_eq.mpr c64
                clear c64
                replace H := Option.bind_eq_some_iff.mp H
                obtain ⟨t216, A650, H⟩ := H
                replace H : (zD.j0 k t202 t210 (t216 == 1) t193 t194 t195 t196 t208 t209 t212 t213) = some r := H
                have A65 := zk.mk A650
                clear A650
                have H' := zk.mk H
                clear H
                have hnb66 := NB207_199.out
                have hnc66 := NB199_207.out
                have hnb67 := NB207_200.out
                have hnc67 := NB200_207.out
                have hnb68 := NB207_201.out
                have hnc68 := NB201_207.out
                have hnb69 := NB207_211.out
                have hnc69 := NB211_207.out
                have hnb70 := NB207_214.out
                have hnc70 := NB214_207.out
                have hcz71_0 : w41.cell? ⟨gb207, 0, none⟩ = some (.int .i64 t204) := (zw BK207.out 0).trans rfl
                have hcz71_1 : w41.cell? ⟨gb207, 1, none⟩ = some (.int .i64 t205) := (zw BK207.out 1).trans rfl
                have hfz71_0 := zt BK207.out 0
                have hfz71_1 := zt BK207.out 1
                have hnb72 := NB214_199.out
                have hnc72 := NB199_214.out
                have hnb73 := NB214_200.out
                have hnc73 := NB200_214.out
                have hnb74 := NB214_201.out
                have hnc74 := NB201_214.out
                have hnb75 := NB214_211.out
                have hnc75 := NB211_214.out
                have hcz76_0 : w41.cell? ⟨gb214, 0, none⟩ = some (.int .i64 0) := (zw BK214.out 0).trans rfl
                have hcz76_1 : w41.cell? ⟨gb214, 1, none⟩ = some (.int .i64 0) := (zw BK214.out 1).trans rfl
                have hfz76_0 := zt BK214.out 0
                have hfz76_1 := zt BK214.out 1
                go_wp2_with (first | (go_at_call 17;(with_reducible refine (zaq.calls t204 t205 t212 t213 t215 _ A50.out).mono ?_);rintro e w77 ⟨rfl, hb⟩;have n0_ := zk.mk (zu (g := gb199) (o := .cells #[.int .i64 t193, .int .i64 t194] 24 (0, 0)) (by (with_reducible repeat (first | refine za ?_ _ | refine zf ?_ | refine ze ?_ _));refine zy ?_ NB199_214.out _;(with_reducible repeat (first | refine za ?_ _ | refine zf ?_ | refine ze ?_ _));refine zy ?_ NB199_214.out _;(with_reducible repeat (first | refine za ?_ _ | refine zf ?_ | refine ze ?_ _));exact BK199.out) hb);have n1_ := zk.mk (zu (g := gb200) (o := .cells #[.int .i64 t195, .int .i64 t196] 24 (0, 0)) (by (with_reducible repeat (first | refine za ?_ _ | refine zf ?_ | refine ze ?_ _));refine zy ?_ NB200_214.out _;(with_reducible repeat (first | refine za ?_ _ | refine zf ?_ | refine ze ?_ _));refine zy ?_ NB200_214.out _;(with_reducible repeat (first | refine za ?_ _ | refine zf ?_ | refine ze ?_ _));exact BK200.out) hb);have n2_ := zk.mk (zu (g := gb201) (o := .cells #[.int .i64 t197, .int .i64 t198] 24 (0, 0)) (by (with_reducible repeat (first | refine za ?_ _ | refine zf ?_ | refine ze ?_ _));refine zy ?_ NB201_214.out _;(with_reducible repeat (first | refine za ?_ _ | refine zf ?_ | refine ze ?_ _));refine zy ?_ NB201_214.out _;(with_reducible repeat (first | refine za ?_ _ | refine zf ?_ | refine ze ?_ _));exact BK201.out) hb);have n3_ := zk.mk (zu (g := gb207) (o := .cells #[.int .i64 t204, .int .i64 t205] 30 (0, 0)) (by (with_reducible repeat (first | refine za ?_ _ | refine zf ?_ | refine ze ?_ _));refine zy ?_ NB207_214.out _;(with_reducible repeat (first | refine za ?_ _ | refine zf ?_ | refine ze ?_ _));refine zy ?_ NB207_214.out _;(with_reducible repeat (first | refine za ?_ _ | refine zf ?_ | refine ze ?_ _));exact BK207.out) hb);have n4_ := zk.mk (zu (g := gb211) (o := .cells #[.int .i64 t208, .int .i64 t209] 30 (0, 0)) (by (with_reducible repeat (first | refine za ?_ _ | refine zf ?_ | refine ze ?_ _));refine zy ?_ NB211_214.out _;(with_reducible repeat (first | refine za ?_ _ | refine zf ?_ | refine ze ?_ _));refine zy ?_ NB211_214.out _;(with_reducible repeat (first | refine za ?_ _ | refine zf ?_ | refine ze ?_ _));exact BK211.out) hb);have n5_ := zk.mk (zu (g := gb214) (o := .cells #[.int .i64 t212, .int .i64 t213] 30 (0, 0)) (by (with_reducible repeat (first | refine za ?_ _ | refine zf ?_ | refine ze ?_ _));refine zao (cs := #[.int .i64 t212, .int .i64 0]) ?_ 1 _ rfl;(with_reducible repeat (first | refine za ?_ _ | refine zf ?_ | refine ze ?_ _));refine zao (cs := #[.int .i64 0, .int .i64 0]) ?_ 0 _ rfl;(with_reducible repeat (first | refine za ?_ _ | refine zf ?_ | refine ze ?_ _));exact BK214.out) hb);have n6_ := zk.mk (zaj (by repeat (first | (with_reducible first | exact HB.out | apply zq | apply zm | apply zo | refine zh ?_ GE199.out | refine zh ?_ GE200.out | refine zh ?_ GE201.out | refine zh ?_ GE207.out | refine zh ?_ GE211.out | refine zh ?_ GE214.out) | exact HB.out)) hb);clear BK199;clear BK200;clear BK201;clear BK207;clear BK211;clear BK214;clear HB;have BK199 := n0_;have BK200 := n1_;have BK201 := n2_;have BK207 := n3_;have BK211 := n4_;have BK214 := n5_;have HB := n6_;clear n0_ n1_ n2_ n3_ n4_ n5_ n6_;(try clear hb);(try clear hb2);(try clear hk);(try clear hi);have hcz78_0 : w77.cell? ⟨gb214, 0, none⟩ = some (.int .i64 t212) := (zw BK214.out 0).trans rfl;have hcz78_1 : w77.cell? ⟨gb214, 1, none⟩ = some (.int .i64 t213) := (zw BK214.out 1).trans rfl;have hfz78_0 := zt BK214.out 0;have hfz78_1 := zt BK214.out 1;have hcz79_0 : w77.cell? ⟨gb207, 0, none⟩ = some (.int .i64 t204) := (zw BK207.out 0).trans rfl;have hcz79_1 : w77.cell? ⟨gb207, 1, none⟩ = some (.int .i64 t205) := (zw BK207.out 1).trans rfl;have hfz79_0 := zt BK207.out 0;have hfz79_1 := zt BK207.out 1) | (go_at_call 17;(with_reducible refine (zaq.calls t212 t213 t204 t205 t216 _ A65.out).mono ?_);rintro e w80 ⟨rfl, hb⟩;have n0_ := zk.mk (zu (g := gb199) (o := .cells #[.int .i64 t193, .int .i64 t194] 24 (0, 0)) (by (with_reducible repeat (first | refine za ?_ _ | refine zf ?_ | refine ze ?_ _));exact BK199.out) hb);have n1_ := zk.mk (zu (g := gb200) (o := .cells #[.int .i64 t195, .int .i64 t196] 24 (0, 0)) (by (with_reducible repeat (first | refine za ?_ _ | refine zf ?_ | refine ze ?_ _));exact BK200.out) hb);have n2_ := zk.mk (zu (g := gb201) (o := .cells #[.int .i64 t197, .int .i64 t198] 24 (0, 0)) (by (with_reducible repeat (first | refine za ?_ _ | refine zf ?_ | refine ze ?_ _));exact BK201.out) hb);have n3_ := zk.mk (zu (g := gb207) (o := .cells #[.int .i64 t204, .int .i64 t205] 30 (0, 0)) (by (with_reducible repeat (first | refine za ?_ _ | refine zf ?_ | refine ze ?_ _));exact BK207.out) hb);have n4_ := zk.mk (zu (g := gb211) (o := .cells #[.int .i64 t208, .int .i64 t209] 30 (0, 0)) (by (with_reducible repeat (first | refine za ?_ _ | refine zf ?_ | refine ze ?_ _));exact BK211.out) hb);have n5_ := zk.mk (zu (g := gb214) (o := .cells #[.int .i64 t212, .int .i64 t213] 30 (0, 0)) (by (with_reducible repeat (first | refine za ?_ _ | refine zf ?_ | refine ze ?_ _));exact BK214.out) hb);have n6_ := zk.mk (zaj (by repeat (first | (with_reducible first | exact HB.out | apply zq | apply zm | apply zo | refine zh ?_ GE199.out | refine zh ?_ GE200.out | refine zh ?_ GE201.out | refine zh ?_ GE207.out | refine zh ?_ GE211.out | refine zh ?_ GE214.out) | exact HB.out)) hb);clear BK199;clear BK200;clear BK201;clear BK207;clear BK211;clear BK214;clear HB;have BK199 := n0_;have BK200 := n1_;have BK201 := n2_;have BK207 := n3_;have BK211 := n4_;have BK214 := n5_;have HB := n6_;clear n0_ n1_ n2_ n3_ n4_ n5_ n6_;(try clear hb);(try clear hb2);(try clear hk);(try clear hi)))
                go_meet
                case rel => exact ⟨_, ((t216 == 1)), (by first | rfl | (simp;done) | (simp [*];done)), H', ⟨by first | omega | exact Nat.le_refl _⟩, ⟨by (with_reducible repeat (first | refine za ?_ _ | refine zf ?_ | refine ze ?_ _));exact BK199.out⟩, ⟨by (with_reducible repeat (first | refine za ?_ _ | refine zf ?_ | refine ze ?_ _));exact BK200.out⟩, ⟨by (with_reducible repeat (first | refine za ?_ _ | refine zf ?_ | refine ze ?_ _));exact BK201.out⟩, ⟨by (with_reducible repeat (first | refine za ?_ _ | refine zf ?_ | refine ze ?_ _));exact BK207.out⟩, ⟨by (with_reducible repeat (first | refine za ?_ _ | refine zf ?_ | refine ze ?_ _));exact BK211.out⟩, ⟨by (with_reducible repeat (first | refine za ?_ _ | refine zf ?_ | refine ze ?_ _));exact BK214.out⟩, ⟨by repeat (first | (with_reducible first | exact HB.out | apply zq | apply zm | apply zo | refine zh ?_ GE199.out | refine zh ?_ GE200.out | refine zh ?_ GE201.out | refine zh ?_ GE207.out | refine zh ?_ GE211.out | refine zh ?_ GE214.out) | exact HB.out)⟩⟩
              · rw [if_neg c64] at H
                have c64b0 : (t202 == 0) = false := beq_eq_false_iff_ne.mpr c64
                have c64b1 : (t202 != 0) = true := bne_iff_ne.mpr c64
                have H' := zk.mk H
                clear H
                have hnb81 := NB207_199.out
                have hnc81 := NB199_207.out
                have hnb82 := NB207_200.out
                have hnc82 := NB200_207.out
                have hnb83 := NB207_201.out
                have hnc83 := NB201_207.out
                have hnb84 := NB207_211.out
                have hnc84 := NB211_207.out
                have hnb85 := NB207_214.out
                have hnc85 := NB214_207.out
                have hcz86_0 : w41.cell? ⟨gb207, 0, none⟩ = some (.int .i64 t204) := (zw BK207.out 0).trans rfl
                have hcz86_1 : w41.cell? ⟨gb207, 1, none⟩ = some (.int .i64 t205) := (zw BK207.out 1).trans rfl
                have hfz86_0 := zt BK207.out 0
                have hfz86_1 := zt BK207.out 1
                have hnb87 := NB214_199.out
                have hnc87 := NB199_214.out
                have hnb88 := NB214_200.out
                have hnc88 := NB200_214.out
                have hnb89 := NB214_201.out
                have hnc89 := NB201_214.out
                have hnb90 := NB214_211.out
                have hnc90 := NB211_214.out
                have hcz91_0 : w41.cell? ⟨gb214, 0, none⟩ = some (.int .i64 0) := (zw BK214.out 0).trans rfl
                have hcz91_1 : w41.cell? ⟨gb214, 1, none⟩ = some (.int .i64 0) := (zw BK214.out 1).trans rfl
                have hfz91_0 := zt BK214.out 0
                have hfz91_1 := zt BK214.out 1
                go_wp2_with (first | (go_at_call 17;(with_reducible refine (zaq.calls t204 t205 t212 t213 t215 _ A50.out).mono ?_);rintro e w92 ⟨rfl, hb⟩;have n0_ := zk.mk (zu (g := gb199) (o := .cells #[.int .i64 t193, .int .i64 t194] 24 (0, 0)) (by (with_reducible repeat (first | refine za ?_ _ | refine zf ?_ | refine ze ?_ _));refine zy ?_ NB199_214.out _;(with_reducible repeat (first | refine za ?_ _ | refine zf ?_ | refine ze ?_ _));refine zy ?_ NB199_214.out _;(with_reducible repeat (first | refine za ?_ _ | refine zf ?_ | refine ze ?_ _));exact BK199.out) hb);have n1_ := zk.mk (zu (g := gb200) (o := .cells #[.int .i64 t195, .int .i64 t196] 24 (0, 0)) (by (with_reducible repeat (first | refine za ?_ _ | refine zf ?_ | refine ze ?_ _));refine zy ?_ NB200_214.out _;(with_reducible repeat (first | refine za ?_ _ | refine zf ?_ | refine ze ?_ _));refine zy ?_ NB200_214.out _;(with_reducible repeat (first | refine za ?_ _ | refine zf ?_ | refine ze ?_ _));exact BK200.out) hb);have n2_ := zk.mk (zu (g := gb201) (o := .cells #[.int .i64 t197, .int .i64 t198] 24 (0, 0)) (by (with_reducible repeat (first | refine za ?_ _ | refine zf ?_ | refine ze ?_ _));refine zy ?_ NB201_214.out _;(with_reducible repeat (first | refine za ?_ _ | refine zf ?_ | refine ze ?_ _));refine zy ?_ NB201_214.out _;(with_reducible repeat (first | refine za ?_ _ | refine zf ?_ | refine ze ?_ _));exact BK201.out) hb);have n3_ := zk.mk (zu (g := gb207) (o := .cells #[.int .i64 t204, .int .i64 t205] 30 (0, 0)) (by (with_reducible repeat (first | refine za ?_ _ | refine zf ?_ | refine ze ?_ _));refine zy ?_ NB207_214.out _;(with_reducible repeat (first | refine za ?_ _ | refine zf ?_ | refine ze ?_ _));refine zy ?_ NB207_214.out _;(with_reducible repeat (first | refine za ?_ _ | refine zf ?_ | refine ze ?_ _));exact BK207.out) hb);have n4_ := zk.mk (zu (g := gb211) (o := .cells #[.int .i64 t208, .int .i64 t209] 30 (0, 0)) (by (with_reducible repeat (first | refine za ?_ _ | refine zf ?_ | refine ze ?_ _));refine zy ?_ NB211_214.out _;(with_reducible repeat (first | refine za ?_ _ | refine zf ?_ | refine ze ?_ _));refine zy ?_ NB211_214.out _;(with_reducible repeat (first | refine za ?_ _ | refine zf ?_ | refine ze ?_ _));exact BK211.out) hb);have n5_ := zk.mk (zu (g := gb214) (o := .cells #[.int .i64 t212, .int .i64 t213] 30 (0, 0)) (by (with_reducible repeat (first | refine za ?_ _ | refine zf ?_ | refine ze ?_ _));refine zao (cs := #[.int .i64 t212, .int .i64 0]) ?_ 1 _ rfl;(with_reducible repeat (first | refine za ?_ _ | refine zf ?_ | refine ze ?_ _));refine zao (cs := #[.int .i64 0, .int .i64 0]) ?_ 0 _ rfl;(with_reducible repeat (first | refine za ?_ _ | refine zf ?_ | refine ze ?_ _));exact BK214.out) hb);have n6_ := zk.mk (zaj (by repeat (first | (with_reducible first | exact HB.out | apply zq | apply zm | apply zo | refine zh ?_ GE199.out | refine zh ?_ GE200.out | refine zh ?_ GE201.out | refine zh ?_ GE207.out | refine zh ?_ GE211.out | refine zh ?_ GE214.out) | exact HB.out)) hb);clear BK199;clear BK200;clear BK201;clear BK207;clear BK211;clear BK214;clear HB;have BK199 := n0_;have BK200 := n1_;have BK201 := n2_;have BK207 := n3_;have BK211 := n4_;have BK214 := n5_;have HB := n6_;clear n0_ n1_ n2_ n3_ n4_ n5_ n6_;(try clear hb);(try clear hb2);(try clear hk);(try clear hi)))
                go_meet
                case rel => exact ⟨_, (false), (by first | rfl | (simp;done) | (simp [*];done)), H', ⟨by first | omega | exact Nat.le_refl _⟩, ⟨by (with_reducible repeat (first | refine za ?_ _ | refine zf ?_ | refine ze ?_ _));exact BK199.out⟩, ⟨by (with_reducible repeat (first | refine za ?_ _ | refine zf ?_ | refine ze ?_ _));exact BK200.out⟩, ⟨by (with_reducible repeat (first | refine za ?_ _ | refine zf ?_ | refine ze ?_ _));exact BK201.out⟩, ⟨by (with_reducible repeat (first | refine za ?_ _ | refine zf ?_ | refine ze ?_ _));exact BK207.out⟩, ⟨by (with_reducible repeat (first | refine za ?_ _ | refine zf ?_ | refine ze ?_ _));exact BK211.out⟩, ⟨by (with_reducible repeat (first | refine za ?_ _ | refine zf ?_ | refine ze ?_ _));exact BK214.out⟩, ⟨by repeat (first | (with_reducible first | exact HB.out | apply zq | apply zm | apply zo | refine zh ?_ GE199.out | refine zh ?_ GE200.out | refine zh ?_ GE201.out | refine zh ?_ GE207.out | refine zh ?_ GE211.out | refine zh ?_ GE214.out) | exact HB.out)⟩⟩
          · rw [if_neg c49] at H
            have c49b0 : (t202 == 1) = false := beq_eq_false_iff_ne.mpr c49
            have c49b1 : (t202 != 1) = true := bne_iff_ne.mpr c49
            by_cases c93 : t202 = 0
            · rw [if_pos c93] at H
              have c93b0 : (t202 == 0) = true := beq_iff_eq.mpr c93
              have c93b1 : (t202 != 0) = false := bne_eq_false_iff_eq.mpr c93
              clear c93
              replace H := Option.bind_eq_some_iff.mp H
              obtain ⟨t217, A940, H⟩ := H
              replace H : (zD.j0 k t202 t210 (t217 == 1) t193 t194 t195 t196 t208 t209 t212 t213) = some r := H
              have A94 := zk.mk A940
              clear A940
              have H' := zk.mk H
              clear H
              have hnb95 := NB214_199.out
              have hnc95 := NB199_214.out
              have hnb96 := NB214_200.out
              have hnc96 := NB200_214.out
              have hnb97 := NB214_201.out
              have hnc97 := NB201_214.out
              have hnb98 := NB214_207.out
              have hnc98 := NB207_214.out
              have hnb99 := NB214_211.out
              have hnc99 := NB211_214.out
              have hcz100_0 : w41.cell? ⟨gb214, 0, none⟩ = some (.int .i64 0) := (zw BK214.out 0).trans rfl
              have hcz100_1 : w41.cell? ⟨gb214, 1, none⟩ = some (.int .i64 0) := (zw BK214.out 1).trans rfl
              have hfz100_0 := zt BK214.out 0
              have hfz100_1 := zt BK214.out 1
              have hnb101 := NB207_199.out
              have hnc101 := NB199_207.out
              have hnb102 := NB207_200.out
              have hnc102 := NB200_207.out
              have hnb103 := NB207_201.out
              have hnc103 := NB201_207.out
              have hnb104 := NB207_211.out
              have hnc104 := NB211_207.out
              have hcz105_0 : w41.cell? ⟨gb207, 0, none⟩ = some (.int .i64 t204) := (zw BK207.out 0).trans rfl
              have hcz105_1 : w41.cell? ⟨gb207, 1, none⟩ = some (.int .i64 t205) := (zw BK207.out 1).trans rfl
              have hfz105_0 := zt BK207.out 0
              have hfz105_1 := zt BK207.out 1
              go_wp2_with (first | (go_at_call 17;(with_reducible refine (zaq.calls t212 t213 t204 t205 t217 _ A94.out).mono ?_);rintro e w106 ⟨rfl, hb⟩;have n0_ := zk.mk (zu (g := gb199) (o := .cells #[.int .i64 t193, .int .i64 t194] 24 (0, 0)) (by (with_reducible repeat (first | refine za ?_ _ | refine zf ?_ | refine ze ?_ _));refine zy ?_ NB199_214.out _;(with_reducible repeat (first | refine za ?_ _ | refine zf ?_ | refine ze ?_ _));refine zy ?_ NB199_214.out _;(with_reducible repeat (first | refine za ?_ _ | refine zf ?_ | refine ze ?_ _));exact BK199.out) hb);have n1_ := zk.mk (zu (g := gb200) (o := .cells #[.int .i64 t195, .int .i64 t196] 24 (0, 0)) (by (with_reducible repeat (first | refine za ?_ _ | refine zf ?_ | refine ze ?_ _));refine zy ?_ NB200_214.out _;(with_reducible repeat (first | refine za ?_ _ | refine zf ?_ | refine ze ?_ _));refine zy ?_ NB200_214.out _;(with_reducible repeat (first | refine za ?_ _ | refine zf ?_ | refine ze ?_ _));exact BK200.out) hb);have n2_ := zk.mk (zu (g := gb201) (o := .cells #[.int .i64 t197, .int .i64 t198] 24 (0, 0)) (by (with_reducible repeat (first | refine za ?_ _ | refine zf ?_ | refine ze ?_ _));refine zy ?_ NB201_214.out _;(with_reducible repeat (first | refine za ?_ _ | refine zf ?_ | refine ze ?_ _));refine zy ?_ NB201_214.out _;(with_reducible repeat (first | refine za ?_ _ | refine zf ?_ | refine ze ?_ _));exact BK201.out) hb);have n3_ := zk.mk (zu (g := gb207) (o := .cells #[.int .i64 t204, .int .i64 t205] 30 (0, 0)) (by (with_reducible repeat (first | refine za ?_ _ | refine zf ?_ | refine ze ?_ _));refine zy ?_ NB207_214.out _;(with_reducible repeat (first | refine za ?_ _ | refine zf ?_ | refine ze ?_ _));refine zy ?_ NB207_214.out _;(with_reducible repeat (first | refine za ?_ _ | refine zf ?_ | refine ze ?_ _));exact BK207.out) hb);have n4_ := zk.mk (zu (g := gb211) (o := .cells #[.int .i64 t208, .int .i64 t209] 30 (0, 0)) (by (with_reducible repeat (first | refine za ?_ _ | refine zf ?_ | refine ze ?_ _));refine zy ?_ NB211_214.out _;(with_reducible repeat (first | refine za ?_ _ | refine zf ?_ | refine ze ?_ _));refine zy ?_ NB211_214.out _;(with_reducible repeat (first | refine za ?_ _ | refine zf ?_ | refine ze ?_ _));exact BK211.out) hb);have n5_ := zk.mk (zu (g := gb214) (o := .cells #[.int .i64 t212, .int .i64 t213] 30 (0, 0)) (by (with_reducible repeat (first | refine za ?_ _ | refine zf ?_ | refine ze ?_ _));refine zao (cs := #[.int .i64 t212, .int .i64 0]) ?_ 1 _ rfl;(with_reducible repeat (first | refine za ?_ _ | refine zf ?_ | refine ze ?_ _));refine zao (cs := #[.int .i64 0, .int .i64 0]) ?_ 0 _ rfl;(with_reducible repeat (first | refine za ?_ _ | refine zf ?_ | refine ze ?_ _));exact BK214.out) hb);have n6_ := zk.mk (zaj (by repeat (first | (with_reducible first | exact HB.out | apply zq | apply zm | apply zo | refine zh ?_ GE199.out | refine zh ?_ GE200.out | refine zh ?_ GE201.out | refine zh ?_ GE207.out | refine zh ?_ GE211.out | refine zh ?_ GE214.out) | exact HB.out)) hb);clear BK199;clear BK200;clear BK201;clear BK207;clear BK211;clear BK214;clear HB;have BK199 := n0_;have BK200 := n1_;have BK201 := n2_;have BK207 := n3_;have BK211 := n4_;have BK214 := n5_;have HB := n6_;clear n0_ n1_ n2_ n3_ n4_ n5_ n6_;(try clear hb);(try clear hb2);(try clear hk);(try clear hi)))
              go_meet
              case rel => exact ⟨_, ((t217 == 1)), (by first | rfl | (simp;done) | (simp [*];done)), H', ⟨by first | omega | exact Nat.le_refl _⟩, ⟨by (with_reducible repeat (first | refine za ?_ _ | refine zf ?_ | refine ze ?_ _));exact BK199.out⟩, ⟨by (with_reducible repeat (first | refine za ?_ _ | refine zf ?_ | refine ze ?_ _));exact BK200.out⟩, ⟨by (with_reducible repeat (first | refine za ?_ _ | refine zf ?_ | refine ze ?_ _));exact BK201.out⟩, ⟨by (with_reducible repeat (first | refine za ?_ _ | refine zf ?_ | refine ze ?_ _));exact BK207.out⟩, ⟨by (with_reducible repeat (first | refine za ?_ _ | refine zf ?_ | refine ze ?_ _));exact BK211.out⟩, ⟨by (with_reducible repeat (first | refine za ?_ _ | refine zf ?_ | refine ze ?_ _));exact BK214.out⟩, ⟨by repeat (first | (with_reducible first | exact HB.out | apply zq | apply zm | apply zo | refine zh ?_ GE199.out | refine zh ?_ GE200.out | refine zh ?_ GE201.out | refine zh ?_ GE207.out | refine zh ?_ GE211.out | refine zh ?_ GE214.out) | exact HB.out)⟩⟩
            · rw [if_neg c93] at H
              have c93b0 : (t202 == 0) = false := beq_eq_false_iff_ne.mpr c93
              have c93b1 : (t202 != 0) = true := bne_iff_ne.mpr c93
              have H' := zk.mk H
              clear H
              go_wp2
              go_meet
              case rel => exact ⟨_, (false), (by first | rfl | (simp;done) | (simp [*];done)), H', ⟨by first | omega | exact Nat.le_refl _⟩, ⟨by (with_reducible repeat (first | refine za ?_ _ | refine zf ?_ | refine ze ?_ _));refine zy ?_ NB199_214.out _;(with_reducible repeat (first | refine za ?_ _ | refine zf ?_ | refine ze ?_ _));refine zy ?_ NB199_214.out _;(with_reducible repeat (first | refine za ?_ _ | refine zf ?_ | refine ze ?_ _));exact BK199.out⟩, ⟨by (with_reducible repeat (first | refine za ?_ _ | refine zf ?_ | refine ze ?_ _));refine zy ?_ NB200_214.out _;(with_reducible repeat (first | refine za ?_ _ | refine zf ?_ | refine ze ?_ _));refine zy ?_ NB200_214.out _;(with_reducible repeat (first | refine za ?_ _ | refine zf ?_ | refine ze ?_ _));exact BK200.out⟩, ⟨by (with_reducible repeat (first | refine za ?_ _ | refine zf ?_ | refine ze ?_ _));refine zy ?_ NB201_214.out _;(with_reducible repeat (first | refine za ?_ _ | refine zf ?_ | refine ze ?_ _));refine zy ?_ NB201_214.out _;(with_reducible repeat (first | refine za ?_ _ | refine zf ?_ | refine ze ?_ _));exact BK201.out⟩, ⟨by (with_reducible repeat (first | refine za ?_ _ | refine zf ?_ | refine ze ?_ _));refine zy ?_ NB207_214.out _;(with_reducible repeat (first | refine za ?_ _ | refine zf ?_ | refine ze ?_ _));refine zy ?_ NB207_214.out _;(with_reducible repeat (first | refine za ?_ _ | refine zf ?_ | refine ze ?_ _));exact BK207.out⟩, ⟨by (with_reducible repeat (first | refine za ?_ _ | refine zf ?_ | refine ze ?_ _));refine zy ?_ NB211_214.out _;(with_reducible repeat (first | refine za ?_ _ | refine zf ?_ | refine ze ?_ _));refine zy ?_ NB211_214.out _;(with_reducible repeat (first | refine za ?_ _ | refine zf ?_ | refine ze ?_ _));exact BK211.out⟩, ⟨by (with_reducible repeat (first | refine za ?_ _ | refine zf ?_ | refine ze ?_ _));refine zao (cs := #[.int .i64 t212, .int .i64 0]) ?_ 1 _ rfl;(with_reducible repeat (first | refine za ?_ _ | refine zf ?_ | refine ze ?_ _));refine zao (cs := #[.int .i64 0, .int .i64 0]) ?_ 0 _ rfl;(with_reducible repeat (first | refine za ?_ _ | refine zf ?_ | refine ze ?_ _));exact BK214.out⟩, ⟨by repeat (first | (with_reducible first | exact HB.out | apply zq | apply zm | apply zo | refine zh ?_ GE199.out | refine zh ?_ GE200.out | refine zh ?_ GE201.out | refine zh ?_ GE207.out | refine zh ?_ GE211.out | refine zh ?_ GE214.out) | exact HB.out)⟩⟩
        · rw [if_neg c48] at H
          have c48b0 : (t206 == 0) = false := beq_eq_false_iff_ne.mpr c48
          have c48b1 : (t206 != 0) = true := bne_iff_ne.mpr c48
          (first | rw [c48b0] | (simp only [i64_w, i32_w];rw [c48b0]) | skip)
          have H' := zk.mk H
          clear H
          go_wp2
          go_meet
          case rel => exact ⟨_, (false), (by first | rfl | (simp;done) | (simp [*];done)), H', ⟨by first | omega | exact Nat.le_refl _⟩, ⟨by (with_reducible repeat (first | refine za ?_ _ | refine zf ?_ | refine ze ?_ _));refine zy ?_ NB199_214.out _;(with_reducible repeat (first | refine za ?_ _ | refine zf ?_ | refine ze ?_ _));refine zy ?_ NB199_214.out _;(with_reducible repeat (first | refine za ?_ _ | refine zf ?_ | refine ze ?_ _));exact BK199.out⟩, ⟨by (with_reducible repeat (first | refine za ?_ _ | refine zf ?_ | refine ze ?_ _));refine zy ?_ NB200_214.out _;(with_reducible repeat (first | refine za ?_ _ | refine zf ?_ | refine ze ?_ _));refine zy ?_ NB200_214.out _;(with_reducible repeat (first | refine za ?_ _ | refine zf ?_ | refine ze ?_ _));exact BK200.out⟩, ⟨by (with_reducible repeat (first | refine za ?_ _ | refine zf ?_ | refine ze ?_ _));refine zy ?_ NB201_214.out _;(with_reducible repeat (first | refine za ?_ _ | refine zf ?_ | refine ze ?_ _));refine zy ?_ NB201_214.out _;(with_reducible repeat (first | refine za ?_ _ | refine zf ?_ | refine ze ?_ _));exact BK201.out⟩, ⟨by (with_reducible repeat (first | refine za ?_ _ | refine zf ?_ | refine ze ?_ _));refine zy ?_ NB207_214.out _;(with_reducible repeat (first | refine za ?_ _ | refine zf ?_ | refine ze ?_ _));refine zy ?_ NB207_214.out _;(with_reducible repeat (first | refine za ?_ _ | refine zf ?_ | refine ze ?_ _));exact BK207.out⟩, ⟨by (with_reducible repeat (first | refine za ?_ _ | refine zf ?_ | refine ze ?_ _));refine zy ?_ NB211_214.out _;(with_reducible repeat (first | refine za ?_ _ | refine zf ?_ | refine ze ?_ _));refine zy ?_ NB211_214.out _;(with_reducible repeat (first | refine za ?_ _ | refine zf ?_ | refine ze ?_ _));exact BK211.out⟩, ⟨by (with_reducible repeat (first | refine za ?_ _ | refine zf ?_ | refine ze ?_ _));refine zao (cs := #[.int .i64 t212, .int .i64 0]) ?_ 1 _ rfl;(with_reducible repeat (first | refine za ?_ _ | refine zf ?_ | refine ze ?_ _));refine zao (cs := #[.int .i64 0, .int .i64 0]) ?_ 0 _ rfl;(with_reducible repeat (first | refine za ?_ _ | refine zf ?_ | refine ze ?_ _));exact BK214.out⟩, ⟨by repeat (first | (with_reducible first | exact HB.out | apply zq | apply zm | apply zo | refine zh ?_ GE199.out | refine zh ?_ GE200.out | refine zh ?_ GE201.out | refine zh ?_ GE207.out | refine zh ?_ GE211.out | refine zh ?_ GE214.out) | exact HB.out)⟩⟩
      case rest =>
        clear HC9
        try clear c1
        try clear c2
        try clear c2b0
        try clear c2b1
        try clear p2
        try clear c3
        try clear c4
        try clear c5
        try clear c6
        try clear c7
        try clear c8
        try clear c8b0
        try clear c8b1
        try clear c9
        try clear c10
        try clear c12
        try clear c13
        try clear c14
        try clear c15
        try clear c16
        try clear c17
        try clear c26
        try clear c27
        try clear c28
        try clear c35
        try clear c36
        try clear c37
        try clear c38
        try clear c42
        try clear c43
        try clear c44
        try clear c45
        try clear c46
        try clear c48
        try clear c48b0
        try clear c48b1
        try clear c49
        try clear c49b0
        try clear c49b1
        try clear c51
        try clear c51b0
        try clear c51b1
        try clear c52
        try clear c53
        try clear c54
        try clear c55
        try clear c56
        try clear c58
        try clear c59
        try clear c60
        try clear c61
        try clear c64
        try clear c64b0
        try clear c64b1
        try clear c66
        try clear c67
        try clear c68
        try clear c69
        try clear c70
        try clear c72
        try clear c73
        try clear c74
        try clear c75
        try clear c81
        try clear c82
        try clear c83
        try clear c84
        try clear c85
        try clear c87
        try clear c88
        try clear c89
        try clear c90
        try clear c93
        try clear c93b0
        try clear c93b1
        try clear c95
        try clear c96
        try clear c97
        try clear c98
        try clear c99
        try clear c101
        try clear c102
        try clear c103
        try clear c104
        try clear hcz100_0
        try clear hcz100_1
        try clear hcz105_0
        try clear hcz105_1
        try clear hcz16_0
        try clear hcz16_1
        try clear hcz18_0
        try clear hcz18_1
        try clear hcz19_0
        try clear hcz19_1
        try clear hcz21_0
        try clear hcz21_1
        try clear hcz22_0
        try clear hcz22_1
        try clear hcz23_0
        try clear hcz23_1
        try clear hcz29_0
        try clear hcz29_1
        try clear hcz30_0
        try clear hcz30_1
        try clear hcz31_0
        try clear hcz31_1
        try clear hcz32_0
        try clear hcz32_1
        try clear hcz39_0
        try clear hcz39_1
        try clear hcz47_0
        try clear hcz47_1
        try clear hcz57_0
        try clear hcz57_1
        try clear hcz62_0
        try clear hcz62_1
        try clear hcz71_0
        try clear hcz71_1
        try clear hcz76_0
        try clear hcz76_1
        try clear hcz78_0
        try clear hcz78_1
        try clear hcz79_0
        try clear hcz79_1
        try clear hcz86_0
        try clear hcz86_1
        try clear hcz91_0
        try clear hcz91_1
        try clear hfz100_0
        try clear hfz100_1
        try clear hfz105_0
        try clear hfz105_1
        try clear hfz16_0
        try clear hfz16_1
        try clear hfz18_0
        try clear hfz18_1
        try clear hfz19_0
        try clear hfz19_1
        try clear hfz21_0
        try clear hfz21_1
        try clear hfz22_0
        try clear hfz22_1
        try clear hfz23_0
        try clear hfz23_1
        try clear hfz29_0
        try clear hfz29_1
        try clear hfz30_0
        try clear hfz30_1
        try clear hfz31_0
        try clear hfz31_1
        try clear hfz32_0
        try clear hfz32_1
        try clear hfz39_0
        try clear hfz39_1
        try clear hfz47_0
        try clear hfz47_1
        try clear hfz57_0
        try clear hfz57_1
        try clear hfz62_0
        try clear hfz62_1
        try clear hfz71_0
        try clear hfz71_1
        try clear hfz76_0
        try clear hfz76_1
        try clear hfz78_0
        try clear hfz78_1
        try clear hfz79_0
        try clear hfz79_1
        try clear hfz86_0
        try clear hfz86_1
        try clear hfz91_0
        try clear hfz91_1
        obtain ⟨kq, x69_8, rfl, HA, HJ8, BK199, BK200, BK201, BK207, BK211, BK214, HB⟩ := hcut
        cases kq with
        | zero => exact absurd HA.out (by simp [zD.j0])
        | succ kj8 =>
          have H := HA.out
          clear HA
          simp only [zD.j0] at H
          by_cases c107 : x69_8 = true
          · subst c107
            have H1 : (some false) = some r := by rw [if_pos rfl] at H;exact H
            clear H
            have H := H1
            clear H1
            obtain rfl := Option.some.inj H
            go_wp2
            go_ret
            exact ⟨by first | rfl | (simp [zan, zam] <;> rfl) | (simp [*, zan, zam] <;> rfl), by repeat (first | (with_reducible first | exact HB.out | apply zq | apply zm | apply zo | refine zh ?_ GE199.out | refine zh ?_ GE200.out | refine zh ?_ GE201.out | refine zh ?_ GE207.out | refine zh ?_ GE211.out | refine zh ?_ GE214.out) | exact HB.out)⟩
          · replace c107 := Bool.eq_false_iff.mpr c107
            subst c107
            have H1 : (if t210 = 0 then (if t202 = 1 then ((zaq.f t208 t209 t212 t213).bind fun t218 => (if t218 = 1 then (zD.j1 kj8 true t193 t194 t195 t196) else (if t202 = 0 then ((zaq.f t212 t213 t208 t209).bind fun t219 => (zD.j1 kj8 (t219 == 1) t193 t194 t195 t196)) else (zD.j1 kj8 false t193 t194 t195 t196)))) else (if t202 = 0 then ((zaq.f t212 t213 t208 t209).bind fun t220 => (zD.j1 kj8 (t220 == 1) t193 t194 t195 t196)) else (zD.j1 kj8 false t193 t194 t195 t196))) else (zD.j1 kj8 false t193 t194 t195 t196)) = some r := by rw [if_neg (show ¬ (false = true) by decide)] at H;exact H
            clear H
            have H := H1
            clear H1
            have HC108 := zk.mk H
            clear H
            go_upto_region 12 with (fail)
            go_cut [91] (fun v91 wc => ∃ (kq : Nat) (x91_107 : Bool), v91 = .bool x91_107 /\ zk (zD.j1 kq x91_107 t193 t194 t195 t196 = some r) /\ zk (kq <= kj8) /\ zk (wc.heap[gb199]? = some (.cells #[.int .i64 t193, .int .i64 t194] 24 (0, 0))) /\ zk (wc.heap[gb200]? = some (.cells #[.int .i64 t195, .int .i64 t196] 24 (0, 0))) /\ zk (wc.heap[gb201]? = some (.cells #[.int .i64 t197, .int .i64 t198] 24 (0, 0))) /\ zk (wc.heap[gb207]? = some (.cells #[.int .i64 t204, .int .i64 t205] 30 (0, 0))) /\ zk (wc.heap[gb211]? = some (.cells #[.int .i64 t208, .int .i64 t209] 30 (0, 0))) /\ zk (wc.heap[gb214]? = some (.cells #[.int .i64 t212, .int .i64 t213] 30 (0, 0))) /\ zk (Below w.heap.size w wc))
            case first =>
              have H := HC108.out
              clear HC108
              by_cases c109 : t210 = 0
              · rw [if_pos c109] at H
                have c109b0 : (t210 == 0) = true := beq_iff_eq.mpr c109
                have c109b1 : (t210 != 0) = false := bne_eq_false_iff_eq.mpr c109
                clear c109
                (first | rw [c109b0] | (simp only [i64_w, i32_w];rw [c109b0]) | skip)
                by_cases c110 : t202 = 1
                · rw [if_pos c110] at H
                  have c110b0 : (t202 == 1) = true := beq_iff_eq.mpr c110
                  have c110b1 : (t202 != 1) = false := bne_eq_false_iff_eq.mpr c110
                  clear c110
                  replace H := Option.bind_eq_some_iff.mp H
                  obtain ⟨t218, A1110, H⟩ := H
                  replace H : (if t218 = 1 then (zD.j1 kj8 true t193 t194 t195 t196) else (if t202 = 0 then ((zaq.f t212 t213 t208 t209).bind fun t219 => (zD.j1 kj8 (t219 == 1) t193 t194 t195 t196)) else (zD.j1 kj8 false t193 t194 t195 t196))) = some r := H
                  have A111 := zk.mk A1110
                  clear A1110
                  by_cases c112 : t218 = 1
                  · rw [if_pos c112] at H
                    have c112b0 : (t218 == 1) = true := beq_iff_eq.mpr c112
                    have c112b1 : (t218 != 1) = false := bne_eq_false_iff_eq.mpr c112
                    clear c112
                    have H' := zk.mk H
                    clear H
                    have hnb113 := NB211_199.out
                    have hnc113 := NB199_211.out
                    have hnb114 := NB211_200.out
                    have hnc114 := NB200_211.out
                    have hnb115 := NB211_201.out
                    have hnc115 := NB201_211.out
                    have hnb116 := NB211_207.out
                    have hnc116 := NB207_211.out
                    have hnb117 := NB211_214.out
                    have hnc117 := NB214_211.out
                    have hcz118_0 : wc.cell? ⟨gb211, 0, none⟩ = some (.int .i64 t208) := (zw BK211.out 0).trans rfl
                    have hcz118_1 : wc.cell? ⟨gb211, 1, none⟩ = some (.int .i64 t209) := (zw BK211.out 1).trans rfl
                    have hfz118_0 := zt BK211.out 0
                    have hfz118_1 := zt BK211.out 1
                    have hnb119 := NB214_199.out
                    have hnc119 := NB199_214.out
                    have hnb120 := NB214_200.out
                    have hnc120 := NB200_214.out
                    have hnb121 := NB214_201.out
                    have hnc121 := NB201_214.out
                    have hnb122 := NB214_207.out
                    have hnc122 := NB207_214.out
                    have hcz123_0 : wc.cell? ⟨gb214, 0, none⟩ = some (.int .i64 t212) := (zw BK214.out 0).trans rfl
                    have hcz123_1 : wc.cell? ⟨gb214, 1, none⟩ = some (.int .i64 t213) := (zw BK214.out 1).trans rfl
                    have hfz123_0 := zt BK214.out 0
                    have hfz123_1 := zt BK214.out 1
                    go_wp2_with (first | (go_at_call 17;(with_reducible refine (zaq.calls t208 t209 t212 t213 t218 _ A111.out).mono ?_);rintro e w124 ⟨rfl, hb⟩;have n0_ := zk.mk (zu (g := gb199) (o := .cells #[.int .i64 t193, .int .i64 t194] 24 (0, 0)) (by (with_reducible repeat (first | refine za ?_ _ | refine zf ?_ | refine ze ?_ _));exact BK199.out) hb);have n1_ := zk.mk (zu (g := gb200) (o := .cells #[.int .i64 t195, .int .i64 t196] 24 (0, 0)) (by (with_reducible repeat (first | refine za ?_ _ | refine zf ?_ | refine ze ?_ _));exact BK200.out) hb);have n2_ := zk.mk (zu (g := gb201) (o := .cells #[.int .i64 t197, .int .i64 t198] 24 (0, 0)) (by (with_reducible repeat (first | refine za ?_ _ | refine zf ?_ | refine ze ?_ _));exact BK201.out) hb);have n3_ := zk.mk (zu (g := gb207) (o := .cells #[.int .i64 t204, .int .i64 t205] 30 (0, 0)) (by (with_reducible repeat (first | refine za ?_ _ | refine zf ?_ | refine ze ?_ _));exact BK207.out) hb);have n4_ := zk.mk (zu (g := gb211) (o := .cells #[.int .i64 t208, .int .i64 t209] 30 (0, 0)) (by (with_reducible repeat (first | refine za ?_ _ | refine zf ?_ | refine ze ?_ _));exact BK211.out) hb);have n5_ := zk.mk (zu (g := gb214) (o := .cells #[.int .i64 t212, .int .i64 t213] 30 (0, 0)) (by (with_reducible repeat (first | refine za ?_ _ | refine zf ?_ | refine ze ?_ _));exact BK214.out) hb);have n6_ := zk.mk (zaj (by repeat (first | (with_reducible first | exact HB.out | apply zq | apply zm | apply zo | refine zh ?_ GE199.out | refine zh ?_ GE200.out | refine zh ?_ GE201.out | refine zh ?_ GE207.out | refine zh ?_ GE211.out | refine zh ?_ GE214.out) | exact HB.out)) hb);clear BK199;clear BK200;clear BK201;clear BK207;clear BK211;clear BK214;clear HB;have BK199 := n0_;have BK200 := n1_;have BK201 := n2_;have BK207 := n3_;have BK211 := n4_;have BK214 := n5_;have HB := n6_;clear n0_ n1_ n2_ n3_ n4_ n5_ n6_;(try clear hb);(try clear hb2);(try clear hk);(try clear hi)))
                    go_meet
                    case rel => exact ⟨_, (true), (by first | rfl | (simp;done) | (simp [*];done)), H', ⟨by have := HJ8.out;first | omega | exact Nat.le_refl _⟩, ⟨by (with_reducible repeat (first | refine za ?_ _ | refine zf ?_ | refine ze ?_ _));exact BK199.out⟩, ⟨by (with_reducible repeat (first | refine za ?_ _ | refine zf ?_ | refine ze ?_ _));exact BK200.out⟩, ⟨by (with_reducible repeat (first | refine za ?_ _ | refine zf ?_ | refine ze ?_ _));exact BK201.out⟩, ⟨by (with_reducible repeat (first | refine za ?_ _ | refine zf ?_ | refine ze ?_ _));exact BK207.out⟩, ⟨by (with_reducible repeat (first | refine za ?_ _ | refine zf ?_ | refine ze ?_ _));exact BK211.out⟩, ⟨by (with_reducible repeat (first | refine za ?_ _ | refine zf ?_ | refine ze ?_ _));exact BK214.out⟩, ⟨by repeat (first | (with_reducible first | exact HB.out | apply zq | apply zm | apply zo | refine zh ?_ GE199.out | refine zh ?_ GE200.out | refine zh ?_ GE201.out | refine zh ?_ GE207.out | refine zh ?_ GE211.out | refine zh ?_ GE214.out) | exact HB.out)⟩⟩
                  · rw [if_neg c112] at H
                    have c112b0 : (t218 == 1) = false := beq_eq_false_iff_ne.mpr c112
                    have c112b1 : (t218 != 1) = true := bne_iff_ne.mpr c112
                    by_cases c125 : t202 = 0
                    · rw [if_pos c125] at H
                      have c125b0 : (t202 == 0) = true := beq_iff_eq.mpr c125
                      have c125b1 : (t202 != 0) = false := bne_eq_false_iff_eq.mpr c125
                      clear c125
                      replace H := Option.bind_eq_some_iff.mp H
                      obtain ⟨t219, A1260, H⟩ := H
                      replace H : (zD.j1 kj8 (t219 == 1) t193 t194 t195 t196) = some r := H
                      have A126 := zk.mk A1260
                      clear A1260
                      have H' := zk.mk H
                      clear H
                      have hnb127 := NB211_199.out
                      have hnc127 := NB199_211.out
                      have hnb128 := NB211_200.out
                      have hnc128 := NB200_211.out
                      have hnb129 := NB211_201.out
                      have hnc129 := NB201_211.out
                      have hnb130 := NB211_207.out
                      have hnc130 := NB207_211.out
                      have hnb131 := NB211_214.out
                      have hnc131 := NB214_211.out
                      have hcz132_0 : wc.cell? ⟨gb211, 0, none⟩ = some (.int .i64 t208) := (zw BK211.out 0).trans rfl
                      have hcz132_1 : wc.cell? ⟨gb211, 1, none⟩ = some (.int .i64 t209) := (zw BK211.out 1).trans rfl
                      have hfz132_0 := zt BK211.out 0
                      have hfz132_1 := zt BK211.out 1
                      have hnb133 := NB214_199.out
                      have hnc133 := NB199_214.out
                      have hnb134 := NB214_200.out
                      have hnc134 := NB200_214.out
                      have hnb135 := NB214_201.out
                      have hnc135 := NB201_214.out
                      have hnb136 := NB214_207.out
                      have hnc136 := NB207_214.out
                      have hcz137_0 : wc.cell? ⟨gb214, 0, none⟩ = some (.int .i64 t212) := (zw BK214.out 0).trans rfl
                      have hcz137_1 : wc.cell? ⟨gb214, 1, none⟩ = some (.int .i64 t213) := (zw BK214.out 1).trans rfl
                      have hfz137_0 := zt BK214.out 0
                      have hfz137_1 := zt BK214.out 1
                      go_wp2_with (first | (go_at_call 17;(with_reducible refine (zaq.calls t208 t209 t212 t213 t218 _ A111.out).mono ?_);rintro e w138 ⟨rfl, hb⟩;have n0_ := zk.mk (zu (g := gb199) (o := .cells #[.int .i64 t193, .int .i64 t194] 24 (0, 0)) (by (with_reducible repeat (first | refine za ?_ _ | refine zf ?_ | refine ze ?_ _));exact BK199.out) hb);have n1_ := zk.mk (zu (g := gb200) (o := .cells #[.int .i64 t195, .int .i64 t196] 24 (0, 0)) (by (with_reducible repeat (first | refine za ?_ _ | refine zf ?_ | refine ze ?_ _));exact BK200.out) hb);have n2_ := zk.mk (zu (g := gb201) (o := .cells #[.int .i64 t197, .int .i64 t198] 24 (0, 0)) (by (with_reducible repeat (first | refine za ?_ _ | refine zf ?_ | refine ze ?_ _));exact BK201.out) hb);have n3_ := zk.mk (zu (g := gb207) (o := .cells #[.int .i64 t204, .int .i64 t205] 30 (0, 0)) (by (with_reducible repeat (first | refine za ?_ _ | refine zf ?_ | refine ze ?_ _));exact BK207.out) hb);have n4_ := zk.mk (zu (g := gb211) (o := .cells #[.int .i64 t208, .int .i64 t209] 30 (0, 0)) (by (with_reducible repeat (first | refine za ?_ _ | refine zf ?_ | refine ze ?_ _));exact BK211.out) hb);have n5_ := zk.mk (zu (g := gb214) (o := .cells #[.int .i64 t212, .int .i64 t213] 30 (0, 0)) (by (with_reducible repeat (first | refine za ?_ _ | refine zf ?_ | refine ze ?_ _));exact BK214.out) hb);have n6_ := zk.mk (zaj (by repeat (first | (with_reducible first | exact HB.out | apply zq | apply zm | apply zo | refine zh ?_ GE199.out | refine zh ?_ GE200.out | refine zh ?_ GE201.out | refine zh ?_ GE207.out | refine zh ?_ GE211.out | refine zh ?_ GE214.out) | exact HB.out)) hb);clear BK199;clear BK200;clear BK201;clear BK207;clear BK211;clear BK214;clear HB;have BK199 := n0_;have BK200 := n1_;have BK201 := n2_;have BK207 := n3_;have BK211 := n4_;have BK214 := n5_;have HB := n6_;clear n0_ n1_ n2_ n3_ n4_ n5_ n6_;(try clear hb);(try clear hb2);(try clear hk);(try clear hi);have hcz139_0 : w138.cell? ⟨gb214, 0, none⟩ = some (.int .i64 t212) := (zw BK214.out 0).trans rfl;have hcz139_1 : w138.cell? ⟨gb214, 1, none⟩ = some (.int .i64 t213) := (zw BK214.out 1).trans rfl;have hfz139_0 := zt BK214.out 0;have hfz139_1 := zt BK214.out 1;have hcz140_0 : w138.cell? ⟨gb211, 0, none⟩ = some (.int .i64 t208) := (zw BK211.out 0).trans rfl;have hcz140_1 : w138.cell? ⟨gb211, 1, none⟩ = some (.int .i64 t209) := (zw BK211.out 1).trans rfl;have hfz140_0 := zt BK211.out 0;have hfz140_1 := zt BK211.out 1) | (go_at_call 17;(with_reducible refine (zaq.calls t212 t213 t208 t209 t219 _ A126.out).mono ?_);rintro e w141 ⟨rfl, hb⟩;have n0_ := zk.mk (zu (g := gb199) (o := .cells #[.int .i64 t193, .int .i64 t194] 24 (0, 0)) (by (with_reducible repeat (first | refine za ?_ _ | refine zf ?_ | refine ze ?_ _));exact BK199.out) hb);have n1_ := zk.mk (zu (g := gb200) (o := .cells #[.int .i64 t195, .int .i64 t196] 24 (0, 0)) (by (with_reducible repeat (first | refine za ?_ _ | refine zf ?_ | refine ze ?_ _));exact BK200.out) hb);have n2_ := zk.mk (zu (g := gb201) (o := .cells #[.int .i64 t197, .int .i64 t198] 24 (0, 0)) (by (with_reducible repeat (first | refine za ?_ _ | refine zf ?_ | refine ze ?_ _));exact BK201.out) hb);have n3_ := zk.mk (zu (g := gb207) (o := .cells #[.int .i64 t204, .int .i64 t205] 30 (0, 0)) (by (with_reducible repeat (first | refine za ?_ _ | refine zf ?_ | refine ze ?_ _));exact BK207.out) hb);have n4_ := zk.mk (zu (g := gb211) (o := .cells #[.int .i64 t208, .int .i64 t209] 30 (0, 0)) (by (with_reducible repeat (first | refine za ?_ _ | refine zf ?_ | refine ze ?_ _));exact BK211.out) hb);have n5_ := zk.mk (zu (g := gb214) (o := .cells #[.int .i64 t212, .int .i64 t213] 30 (0, 0)) (by (with_reducible repeat (first | refine za ?_ _ | refine zf ?_ | refine ze ?_ _));exact BK214.out) hb);have n6_ := zk.mk (zaj (by repeat (first | (with_reducible first | exact HB.out | apply zq | apply zm | apply zo | refine zh ?_ GE199.out | refine zh ?_ GE200.out | refine zh ?_ GE201.out | refine zh ?_ GE207.out | refine zh ?_ GE211.out | refine zh ?_ GE214.out) | exact HB.out)) hb);clear BK199;clear BK200;clear BK201;clear BK207;clear BK211;clear BK214;clear HB;have BK199 := n0_;have BK200 := n1_;have BK201 := n2_;have BK207 := n3_;have BK211 := n4_;have BK214 := n5_;have HB := n6_;clear n0_ n1_ n2_ n3_ n4_ n5_ n6_;(try clear hb);(try clear hb2);(try clear hk);(try clear hi)))
                      go_meet
                      case rel => exact ⟨_, ((t219 == 1)), (by first | rfl | (simp;done) | (simp [*];done)), H', ⟨by have := HJ8.out;first | omega | exact Nat.le_refl _⟩, ⟨by (with_reducible repeat (first | refine za ?_ _ | refine zf ?_ | refine ze ?_ _));exact BK199.out⟩, ⟨by (with_reducible repeat (first | refine za ?_ _ | refine zf ?_ | refine ze ?_ _));exact BK200.out⟩, ⟨by (with_reducible repeat (first | refine za ?_ _ | refine zf ?_ | refine ze ?_ _));exact BK201.out⟩, ⟨by (with_reducible repeat (first | refine za ?_ _ | refine zf ?_ | refine ze ?_ _));exact BK207.out⟩, ⟨by (with_reducible repeat (first | refine za ?_ _ | refine zf ?_ | refine ze ?_ _));exact BK211.out⟩, ⟨by (with_reducible repeat (first | refine za ?_ _ | refine zf ?_ | refine ze ?_ _));exact BK214.out⟩, ⟨by repeat (first | (with_reducible first | exact HB.out | apply zq | apply zm | apply zo | refine zh ?_ GE199.out | refine zh ?_ GE200.out | refine zh ?_ GE201.out | refine zh ?_ GE207.out | refine zh ?_ GE211.out | refine zh ?_ GE214.out) | exact HB.out)⟩⟩
                    · rw [if_neg c125] at H
                      have c125b0 : (t202 == 0) = false := beq_eq_false_iff_ne.mpr c125
                      have c125b1 : (t202 != 0) = true := bne_iff_ne.mpr c125
                      have H' := zk.mk H
                      clear H
                      have hnb142 := NB211_199.out
                      have hnc142 := NB199_211.out
                      have hnb143 := NB211_200.out
                      have hnc143 := NB200_211.out
                      have hnb144 := NB211_201.out
                      have hnc144 := NB201_211.out
                      have hnb145 := NB211_207.out
                      have hnc145 := NB207_211.out
                      have hnb146 := NB211_214.out
                      have hnc146 := NB214_211.out
                      have hcz147_0 : wc.cell? ⟨gb211, 0, none⟩ = some (.int .i64 t208) := (zw BK211.out 0).trans rfl
                      have hcz147_1 : wc.cell? ⟨gb211, 1, none⟩ = some (.int .i64 t209) := (zw BK211.out 1).trans rfl
                      have hfz147_0 := zt BK211.out 0
                      have hfz147_1 := zt BK211.out 1
                      have hnb148 := NB214_199.out
                      have hnc148 := NB199_214.out
                      have hnb149 := NB214_200.out
                      have hnc149 := NB200_214.out
                      have hnb150 := NB214_201.out
                      have hnc150 := NB201_214.out
                      have hnb151 := NB214_207.out
                      have hnc151 := NB207_214.out
                      have hcz152_0 : wc.cell? ⟨gb214, 0, none⟩ = some (.int .i64 t212) := (zw BK214.out 0).trans rfl
                      have hcz152_1 : wc.cell? ⟨gb214, 1, none⟩ = some (.int .i64 t213) := (zw BK214.out 1).trans rfl
                      have hfz152_0 := zt BK214.out 0
                      have hfz152_1 := zt BK214.out 1
                      go_wp2_with (first | (go_at_call 17;(with_reducible refine (zaq.calls t208 t209 t212 t213 t218 _ A111.out).mono ?_);rintro e w153 ⟨rfl, hb⟩;have n0_ := zk.mk (zu (g := gb199) (o := .cells #[.int .i64 t193, .int .i64 t194] 24 (0, 0)) (by (with_reducible repeat (first | refine za ?_ _ | refine zf ?_ | refine ze ?_ _));exact BK199.out) hb);have n1_ := zk.mk (zu (g := gb200) (o := .cells #[.int .i64 t195, .int .i64 t196] 24 (0, 0)) (by (with_reducible repeat (first | refine za ?_ _ | refine zf ?_ | refine ze ?_ _));exact BK200.out) hb);have n2_ := zk.mk (zu (g := gb201) (o := .cells #[.int .i64 t197, .int .i64 t198] 24 (0, 0)) (by (with_reducible repeat (first | refine za ?_ _ | refine zf ?_ | refine ze ?_ _));exact BK201.out) hb);have n3_ := zk.mk (zu (g := gb207) (o := .cells #[.int .i64 t204, .int .i64 t205] 30 (0, 0)) (by (with_reducible repeat (first | refine za ?_ _ | refine zf ?_ | refine ze ?_ _));exact BK207.out) hb);have n4_ := zk.mk (zu (g := gb211) (o := .cells #[.int .i64 t208, .int .i64 t209] 30 (0, 0)) (by (with_reducible repeat (first | refine za ?_ _ | refine zf ?_ | refine ze ?_ _));exact BK211.out) hb);have n5_ := zk.mk (zu (g := gb214) (o := .cells #[.int .i64 t212, .int .i64 t213] 30 (0, 0)) (by (with_reducible repeat (first | refine za ?_ _ | refine zf ?_ | refine ze ?_ _));exact BK214.out) hb);have n6_ := zk.mk (zaj (by repeat (first | (with_reducible first | exact HB.out | apply zq | apply zm | apply zo | refine zh ?_ GE199.out | refine zh ?_ GE200.out | refine zh ?_ GE201.out | refine zh ?_ GE207.out | refine zh ?_ GE211.out | refine zh ?_ GE214.out) | exact HB.out)) hb);clear BK199;clear BK200;clear BK201;clear BK207;clear BK211;clear BK214;clear HB;have BK199 := n0_;have BK200 := n1_;have BK201 := n2_;have BK207 := n3_;have BK211 := n4_;have BK214 := n5_;have HB := n6_;clear n0_ n1_ n2_ n3_ n4_ n5_ n6_;(try clear hb);(try clear hb2);(try clear hk);(try clear hi)))
                      go_meet
                      case rel => exact ⟨_, (false), (by first | rfl | (simp;done) | (simp [*];done)), H', ⟨by have := HJ8.out;first | omega | exact Nat.le_refl _⟩, ⟨by (with_reducible repeat (first | refine za ?_ _ | refine zf ?_ | refine ze ?_ _));exact BK199.out⟩, ⟨by (with_reducible repeat (first | refine za ?_ _ | refine zf ?_ | refine ze ?_ _));exact BK200.out⟩, ⟨by (with_reducible repeat (first | refine za ?_ _ | refine zf ?_ | refine ze ?_ _));exact BK201.out⟩, ⟨by (with_reducible repeat (first | refine za ?_ _ | refine zf ?_ | refine ze ?_ _));exact BK207.out⟩, ⟨by (with_reducible repeat (first | refine za ?_ _ | refine zf ?_ | refine ze ?_ _));exact BK211.out⟩, ⟨by (with_reducible repeat (first | refine za ?_ _ | refine zf ?_ | refine ze ?_ _));exact BK214.out⟩, ⟨by repeat (first | (with_reducible first | exact HB.out | apply zq | apply zm | apply zo | refine zh ?_ GE199.out | refine zh ?_ GE200.out | refine zh ?_ GE201.out | refine zh ?_ GE207.out | refine zh ?_ GE211.out | refine zh ?_ GE214.out) | exact HB.out)⟩⟩
                · rw [if_neg c110] at H
                  have c110b0 : (t202 == 1) = false := beq_eq_false_iff_ne.mpr c110
                  have c110b1 : (t202 != 1) = true := bne_iff_ne.mpr c110
                  by_cases c154 : t202 = 0
                  · rw [if_pos c154] at H
                    have c154b0 : (t202 == 0) = true := beq_iff_eq.mpr c154
                    have c154b1 : (t202 != 0) = false := bne_eq_false_iff_eq.mpr c154
                    clear c154
                    replace H := Option.bind_eq_some_iff.mp H
                    obtain ⟨t220, A1550, H⟩ := H
                    replace H : (zD.j1 kj8 (t220 == 1) t193 t194 t195 t196) = some r := H
                    have A155 := zk.mk A1550
                    clear A1550
                    have H' := zk.mk H
                    clear H
                    have hnb156 := NB214_199.out
                    have hnc156 := NB199_214.out
                    have hnb157 := NB214_200.out
                    have hnc157 := NB200_214.out
                    have hnb158 := NB214_201.out
                    have hnc158 := NB201_214.out
                    have hnb159 := NB214_207.out
                    have hnc159 := NB207_214.out
                    have hnb160 := NB214_211.out
                    have hnc160 := NB211_214.out
                    have hcz161_0 : wc.cell? ⟨gb214, 0, none⟩ = some (.int .i64 t212) := (zw BK214.out 0).trans rfl
                    have hcz161_1 : wc.cell? ⟨gb214, 1, none⟩ = some (.int .i64 t213) := (zw BK214.out 1).trans rfl
                    have hfz161_0 := zt BK214.out 0
                    have hfz161_1 := zt BK214.out 1
                    have hnb162 := NB211_199.out
                    have hnc162 := NB199_211.out
                    have hnb163 := NB211_200.out
                    have hnc163 := NB200_211.out
                    have hnb164 := NB211_201.out
                    have hnc164 := NB201_211.out
                    have hnb165 := NB211_207.out
                    have hnc165 := NB207_211.out
                    have hcz166_0 : wc.cell? ⟨gb211, 0, none⟩ = some (.int .i64 t208) := (zw BK211.out 0).trans rfl
                    have hcz166_1 : wc.cell? ⟨gb211, 1, none⟩ = some (.int .i64 t209) := (zw BK211.out 1).trans rfl
                    have hfz166_0 := zt BK211.out 0
                    have hfz166_1 := zt BK211.out 1
                    go_wp2_with (first | (go_at_call 17;(with_reducible refine (zaq.calls t212 t213 t208 t209 t220 _ A155.out).mono ?_);rintro e w167 ⟨rfl, hb⟩;have n0_ := zk.mk (zu (g := gb199) (o := .cells #[.int .i64 t193, .int .i64 t194] 24 (0, 0)) (by (with_reducible repeat (first | refine za ?_ _ | refine zf ?_ | refine ze ?_ _));exact BK199.out) hb);have n1_ := zk.mk (zu (g := gb200) (o := .cells #[.int .i64 t195, .int .i64 t196] 24 (0, 0)) (by (with_reducible repeat (first | refine za ?_ _ | refine zf ?_ | refine ze ?_ _));exact BK200.out) hb);have n2_ := zk.mk (zu (g := gb201) (o := .cells #[.int .i64 t197, .int .i64 t198] 24 (0, 0)) (by (with_reducible repeat (first | refine za ?_ _ | refine zf ?_ | refine ze ?_ _));exact BK201.out) hb);have n3_ := zk.mk (zu (g := gb207) (o := .cells #[.int .i64 t204, .int .i64 t205] 30 (0, 0)) (by (with_reducible repeat (first | refine za ?_ _ | refine zf ?_ | refine ze ?_ _));exact BK207.out) hb);have n4_ := zk.mk (zu (g := gb211) (o := .cells #[.int .i64 t208, .int .i64 t209] 30 (0, 0)) (by (with_reducible repeat (first | refine za ?_ _ | refine zf ?_ | refine ze ?_ _));exact BK211.out) hb);have n5_ := zk.mk (zu (g := gb214) (o := .cells #[.int .i64 t212, .int .i64 t213] 30 (0, 0)) (by (with_reducible repeat (first | refine za ?_ _ | refine zf ?_ | refine ze ?_ _));exact BK214.out) hb);have n6_ := zk.mk (zaj (by repeat (first | (with_reducible first | exact HB.out | apply zq | apply zm | apply zo | refine zh ?_ GE199.out | refine zh ?_ GE200.out | refine zh ?_ GE201.out | refine zh ?_ GE207.out | refine zh ?_ GE211.out | refine zh ?_ GE214.out) | exact HB.out)) hb);clear BK199;clear BK200;clear BK201;clear BK207;clear BK211;clear BK214;clear HB;have BK199 := n0_;have BK200 := n1_;have BK201 := n2_;have BK207 := n3_;have BK211 := n4_;have BK214 := n5_;have HB := n6_;clear n0_ n1_ n2_ n3_ n4_ n5_ n6_;(try clear hb);(try clear hb2);(try clear hk);(try clear hi)))
                    go_meet
                    case rel => exact ⟨_, ((t220 == 1)), (by first | rfl | (simp;done) | (simp [*];done)), H', ⟨by have := HJ8.out;first | omega | exact Nat.le_refl _⟩, ⟨by (with_reducible repeat (first | refine za ?_ _ | refine zf ?_ | refine ze ?_ _));exact BK199.out⟩, ⟨by (with_reducible repeat (first | refine za ?_ _ | refine zf ?_ | refine ze ?_ _));exact BK200.out⟩, ⟨by (with_reducible repeat (first | refine za ?_ _ | refine zf ?_ | refine ze ?_ _));exact BK201.out⟩, ⟨by (with_reducible repeat (first | refine za ?_ _ | refine zf ?_ | refine ze ?_ _));exact BK207.out⟩, ⟨by (with_reducible repeat (first | refine za ?_ _ | refine zf ?_ | refine ze ?_ _));exact BK211.out⟩, ⟨by (with_reducible repeat (first | refine za ?_ _ | refine zf ?_ | refine ze ?_ _));exact BK214.out⟩, ⟨by repeat (first | (with_reducible first | exact HB.out | apply zq | apply zm | apply zo | refine zh ?_ GE199.out | refine zh ?_ GE200.out | refine zh ?_ GE201.out | refine zh ?_ GE207.out | refine zh ?_ GE211.out | refine zh ?_ GE214.out) | exact HB.out)⟩⟩
                  · rw [if_neg c154] at H
                    have c154b0 : (t202 == 0) = false := beq_eq_false_iff_ne.mpr c154
                    have c154b1 : (t202 != 0) = true := bne_iff_ne.mpr c154
                    have H' := zk.mk H
                    clear H
                    go_wp2
                    go_meet
                    case rel => exact ⟨_, (false), (by first | rfl | (simp;done) | (simp [*];done)), H', ⟨by have := HJ8.out;first | omega | exact Nat.le_refl _⟩, ⟨by (with_reducible repeat (first | refine za ?_ _ | refine zf ?_ | refine ze ?_ _));exact BK199.out⟩, ⟨by (with_reducible repeat (first | refine za ?_ _ | refine zf ?_ | refine ze ?_ _));exact BK200.out⟩, ⟨by (with_reducible repeat (first | refine za ?_ _ | refine zf ?_ | refine ze ?_ _));exact BK201.out⟩, ⟨by (with_reducible repeat (first | refine za ?_ _ | refine zf ?_ | refine ze ?_ _));exact BK207.out⟩, ⟨by (with_reducible repeat (first | refine za ?_ _ | refine zf ?_ | refine ze ?_ _));exact BK211.out⟩, ⟨by (with_reducible repeat (first | refine za ?_ _ | refine zf ?_ | refine ze ?_ _));exact BK214.out⟩, ⟨by repeat (first | (with_reducible first | exact HB.out | apply zq | apply zm | apply zo | refine zh ?_ GE199.out | refine zh ?_ GE200.out | refine zh ?_ GE201.out | refine zh ?_ GE207.out | refine zh ?_ GE211.out | refine zh ?_ GE214.out) | exact HB.out)⟩⟩
              · rw [if_neg c109] at H
                have c109b0 : (t210 == 0) = false := beq_eq_false_iff_ne.mpr c109
                have c109b1 : (t210 != 0) = true := bne_iff_ne.mpr c109
                (first | rw [c109b0] | (simp only [i64_w, i32_w];rw [c109b0]) | skip)
                have H' := zk.mk H
                clear H
                go_wp2
                go_meet
                case rel => exact ⟨_, (false), (by first | rfl | (simp;done) | (simp [*];done)), H', ⟨by have := HJ8.out;first | omega | exact Nat.le_refl _⟩, ⟨by (with_reducible repeat (first | refine za ?_ _ | refine zf ?_ | refine ze ?_ _));exact BK199.out⟩, ⟨by (with_reducible repeat (first | refine za ?_ _ | refine zf ?_ | refine ze ?_ _));exact BK200.out⟩, ⟨by (with_reducible repeat (first | refine za ?_ _ | refine zf ?_ | refine ze ?_ _));exact BK201.out⟩, ⟨by (with_reducible repeat (first | refine za ?_ _ | refine zf ?_ | refine ze ?_ _));exact BK207.out⟩, ⟨by (with_reducible repeat (first | refine za ?_ _ | refine zf ?_ | refine ze ?_ _));exact BK211.out⟩, ⟨by (with_reducible repeat (first | refine za ?_ _ | refine zf ?_ | refine ze ?_ _));exact BK214.out⟩, ⟨by repeat (first | (with_reducible first | exact HB.out | apply zq | apply zm | apply zo | refine zh ?_ GE199.out | refine zh ?_ GE200.out | refine zh ?_ GE201.out | refine zh ?_ GE207.out | refine zh ?_ GE211.out | refine zh ?_ GE214.out) | exact HB.out)⟩⟩
            case rest =>
              clear HC108
              try clear c1
              try clear c2
              try clear c2b0
              try clear c2b1
              try clear p2
              try clear c3
              try clear c4
              try clear c5
              try clear c6
              try clear c7
              try clear c8
              try clear c8b0
              try clear c8b1
              try clear c9
              try clear c10
              try clear c11
              try clear c12
              try clear c13
              try clear c14
              try clear c15
              try clear c16
              try clear c17
              try clear c26
              try clear c27
              try clear c28
              try clear c35
              try clear c36
              try clear c37
              try clear c38
              try clear c42
              try clear c43
              try clear c44
              try clear c45
              try clear c46
              try clear c48
              try clear c48b0
              try clear c48b1
              try clear c49
              try clear c49b0
              try clear c49b1
              try clear c51
              try clear c51b0
              try clear c51b1
              try clear c52
              try clear c53
              try clear c54
              try clear c55
              try clear c56
              try clear c58
              try clear c59
              try clear c60
              try clear c61
              try clear c64
              try clear c64b0
              try clear c64b1
              try clear c66
              try clear c67
              try clear c68
              try clear c69
              try clear c70
              try clear c72
              try clear c73
              try clear c74
              try clear c75
              try clear c81
              try clear c82
              try clear c83
              try clear c84
              try clear c85
              try clear c87
              try clear c88
              try clear c89
              try clear c90
              try clear c93
              try clear c93b0
              try clear c93b1
              try clear c95
              try clear c96
              try clear c97
              try clear c98
              try clear c99
              try clear c101
              try clear c102
              try clear c103
              try clear c104
              try clear c107
              try clear c109
              try clear c109b0
              try clear c109b1
              try clear c110
              try clear c110b0
              try clear c110b1
              try clear c112
              try clear c112b0
              try clear c112b1
              try clear c113
              try clear c114
              try clear c115
              try clear c116
              try clear c117
              try clear c119
              try clear c120
              try clear c121
              try clear c122
              try clear c125
              try clear c125b0
              try clear c125b1
              try clear c127
              try clear c128
              try clear c129
              try clear c130
              try clear c131
              try clear c133
              try clear c134
              try clear c135
              try clear c136
              try clear c142
              try clear c143
              try clear c144
              try clear c145
              try clear c146
              try clear c148
              try clear c149
              try clear c150
              try clear c151
              try clear c154
              try clear c154b0
              try clear c154b1
              try clear c156
              try clear c157
              try clear c158
              try clear c159
              try clear c160
              try clear c162
              try clear c163
              try clear c164
              try clear c165
              try clear hcz100_0
              try clear hcz100_1
              try clear hcz105_0
              try clear hcz105_1
              try clear hcz118_0
              try clear hcz118_1
              try clear hcz123_0
              try clear hcz123_1
              try clear hcz132_0
              try clear hcz132_1
              try clear hcz137_0
              try clear hcz137_1
              try clear hcz139_0
              try clear hcz139_1
              try clear hcz140_0
              try clear hcz140_1
              try clear hcz147_0
              try clear hcz147_1
              try clear hcz152_0
              try clear hcz152_1
              try clear hcz161_0
              try clear hcz161_1
              try clear hcz166_0
              try clear hcz166_1
              try clear hcz16_0
              try clear hcz16_1
              try clear hcz18_0
              try clear hcz18_1
              try clear hcz19_0
              try clear hcz19_1
              try clear hcz21_0
              try clear hcz21_1
              try clear hcz22_0
              try clear hcz22_1
              try clear hcz23_0
              try clear hcz23_1
              try clear hcz29_0
              try clear hcz29_1
              try clear hcz30_0
              try clear hcz30_1
              try clear hcz31_0
              try clear hcz31_1
              try clear hcz32_0
              try clear hcz32_1
              try clear hcz39_0
              try clear hcz39_1
              try clear hcz47_0
              try clear hcz47_1
              try clear hcz57_0
              try clear hcz57_1
              try clear hcz62_0
              try clear hcz62_1
              try clear hcz71_0
              try clear hcz71_1
              try clear hcz76_0
              try clear hcz76_1
              try clear hcz78_0
              try clear hcz78_1
              try clear hcz79_0
              try clear hcz79_1
              try clear hcz86_0
              try clear hcz86_1
              try clear hcz91_0
              try clear hcz91_1
              try clear hfz100_0
              try clear hfz100_1
              try clear hfz105_0
              try clear hfz105_1
              try clear hfz118_0
              try clear hfz118_1
              try clear hfz123_0
              try clear hfz123_1
              try clear hfz132_0
              try clear hfz132_1
              try clear hfz137_0
              try clear hfz137_1
              try clear hfz139_0
              try clear hfz139_1
              try clear hfz140_0
              try clear hfz140_1
              try clear hfz147_0
              try clear hfz147_1
              try clear hfz152_0
              try clear hfz152_1
              try clear hfz161_0
              try clear hfz161_1
              try clear hfz166_0
              try clear hfz166_1
              try clear hfz16_0
              try clear hfz16_1
              try clear hfz18_0
              try clear hfz18_1
              try clear hfz19_0
              try clear hfz19_1
              try clear hfz21_0
              try clear hfz21_1
              try clear hfz22_0
              try clear hfz22_1
              try clear hfz23_0
              try clear hfz23_1
              try clear hfz29_0
              try clear hfz29_1
              try clear hfz30_0
              try clear hfz30_1
              try clear hfz31_0
              try clear hfz31_1
              try clear hfz32_0
              try clear hfz32_1
              try clear hfz39_0
              try clear hfz39_1
              try clear hfz47_0
              try clear hfz47_1
              try clear hfz57_0
              try clear hfz57_1
              try clear hfz62_0
              try clear hfz62_1
              try clear hfz71_0
              try clear hfz71_1
              try clear hfz76_0
              try clear hfz76_1
              try clear hfz78_0
              try clear hfz78_1
              try clear hfz79_0
              try clear hfz79_1
              try clear hfz86_0
              try clear hfz86_1
              try clear hfz91_0
              try clear hfz91_1
              try clear p2
              obtain ⟨kq, x91_107, rfl, HA, HJ107, BK199, BK200, BK201, BK207, BK211, BK214, HB⟩ := hcut
              cases kq with
              | zero => exact absurd HA.out (by simp [zD.j1])
              | succ kj107 =>
                have H := HA.out
                clear HA
                simp only [zD.j1] at H
                by_cases c168 : x91_107 = true
                · subst c168
                  have H1 : (some false) = some r := by rw [if_pos rfl] at H;exact H
                  clear H
                  have H := H1
                  clear H1
                  obtain rfl := Option.some.inj H
                  go_wp2
                  go_ret
                  exact ⟨by first | rfl | (simp [zan, zam] <;> rfl) | (simp [*, zan, zam] <;> rfl), by repeat (first | (with_reducible first | exact HB.out | apply zq | apply zm | apply zo | refine zh ?_ GE199.out | refine zh ?_ GE200.out | refine zh ?_ GE201.out | refine zh ?_ GE207.out | refine zh ?_ GE211.out | refine zh ?_ GE214.out) | exact HB.out)⟩
                · replace c168 := Bool.eq_false_iff.mpr c168
                  subst c168
                  have H1 : ((zba.f t193 t194 t195 t196 t193 t194).bind fun bt221 => (if bt221.2.2 = 0 then ((zfV.f bt221.1 bt221.2.1 0).bind fun t225 => (some t225)) else (some true))) = some r := by rw [if_neg (show ¬ (false = true) by decide)] at H;exact H
                  clear H
                  have H := H1
                  clear H1
                  replace H := Option.bind_eq_some_iff.mp H
                  obtain ⟨⟨t221, t222, t223⟩, A1690, H⟩ := H
                  replace H : (if t223 = 0 then ((zfV.f t221 t222 0).bind fun t225 => (some t225)) else (some true)) = some r := H
                  have A169 := zk.mk A1690
                  clear A1690
                  by_cases c170 : t223 = 0
                  · rw [if_pos c170] at H
                    have c170b0 : (t223 == 0) = true := beq_iff_eq.mpr c170
                    have c170b1 : (t223 != 0) = false := bne_eq_false_iff_eq.mpr c170
                    clear c170
                    replace H := Option.bind_eq_some_iff.mp H
                    obtain ⟨t225, A1710, H⟩ := H
                    replace H : (some t225) = some r := H
                    have A171 := zk.mk A1710
                    clear A1710
                    obtain rfl := Option.some.inj H
                    have hnb172 := NB199_200.out
                    have hnc172 := NB200_199.out
                    have hnb173 := NB199_201.out
                    have hnc173 := NB201_199.out
                    have hnb174 := NB199_207.out
                    have hnc174 := NB207_199.out
                    have hnb175 := NB199_211.out
                    have hnc175 := NB211_199.out
                    have hnb176 := NB199_214.out
                    have hnc176 := NB214_199.out
                    have hcz177_0 : wc.cell? ⟨gb199, 0, none⟩ = some (.int .i64 t193) := (zw BK199.out 0).trans rfl
                    have hcz177_1 : wc.cell? ⟨gb199, 1, none⟩ = some (.int .i64 t194) := (zw BK199.out 1).trans rfl
                    have hfz177_0 := zt BK199.out 0
                    have hfz177_1 := zt BK199.out 1
                    have hnb178 := NB200_201.out
                    have hnc178 := NB201_200.out
                    have hnb179 := NB200_207.out
                    have hnc179 := NB207_200.out
                    have hnb180 := NB200_211.out
                    have hnc180 := NB211_200.out
                    have hnb181 := NB200_214.out
                    have hnc181 := NB214_200.out
                    have hcz182_0 : wc.cell? ⟨gb200, 0, none⟩ = some (.int .i64 t195) := (zw BK200.out 0).trans rfl
                    have hcz182_1 : wc.cell? ⟨gb200, 1, none⟩ = some (.int .i64 t196) := (zw BK200.out 1).trans rfl
                    have hfz182_0 := zt BK200.out 0
                    have hfz182_1 := zt BK200.out 1
                    go_wp2_with (first | ((with_reducible refine zah (f := 14) rfl ?_);refine zbE (some 96) rfl rfl Tryz.func14 (by kernel_rfl) rfl #[.agg #[.int .i64 t193, .int .i64 t194], .agg #[.int .i64 t195, .int .i64 t196], .agg #[.int .i64 t193, .int .i64 t194]] rfl (by (try simp only [List.map_toArray, List.map_cons, List.map_nil]);first | done | rfl | (simp only [List.length_drop, List.length_take];rfl)) ?_;(with_reducible refine (zba.calls t193 t194 t195 t196 t193 t194 t221 t222 t223 _ A169.out).mono ?_);rintro e w183 ⟨rfl, hb⟩;refine ⟨_, rfl, ?_⟩;have n0_ := zk.mk (zu (g := gb199) (o := .cells #[.int .i64 t193, .int .i64 t194] 24 (0, 0)) (by (with_reducible repeat (first | refine za ?_ _ | refine zf ?_ | refine ze ?_ _));exact BK199.out) hb);have n1_ := zk.mk (zu (g := gb200) (o := .cells #[.int .i64 t195, .int .i64 t196] 24 (0, 0)) (by (with_reducible repeat (first | refine za ?_ _ | refine zf ?_ | refine ze ?_ _));exact BK200.out) hb);have n2_ := zk.mk (zu (g := gb201) (o := .cells #[.int .i64 t197, .int .i64 t198] 24 (0, 0)) (by (with_reducible repeat (first | refine za ?_ _ | refine zf ?_ | refine ze ?_ _));exact BK201.out) hb);have n3_ := zk.mk (zu (g := gb207) (o := .cells #[.int .i64 t204, .int .i64 t205] 30 (0, 0)) (by (with_reducible repeat (first | refine za ?_ _ | refine zf ?_ | refine ze ?_ _));exact BK207.out) hb);have n4_ := zk.mk (zu (g := gb211) (o := .cells #[.int .i64 t208, .int .i64 t209] 30 (0, 0)) (by (with_reducible repeat (first | refine za ?_ _ | refine zf ?_ | refine ze ?_ _));exact BK211.out) hb);have n5_ := zk.mk (zu (g := gb214) (o := .cells #[.int .i64 t212, .int .i64 t213] 30 (0, 0)) (by (with_reducible repeat (first | refine za ?_ _ | refine zf ?_ | refine ze ?_ _));exact BK214.out) hb);have n6_ := zk.mk (zaj (by repeat (first | (with_reducible first | exact HB.out | apply zq | apply zm | apply zo | refine zh ?_ GE199.out | refine zh ?_ GE200.out | refine zh ?_ GE201.out | refine zh ?_ GE207.out | refine zh ?_ GE211.out | refine zh ?_ GE214.out) | exact HB.out)) hb);clear BK199;clear BK200;clear BK201;clear BK207;clear BK211;clear BK214;clear HB;have BK199 := n0_;have BK200 := n1_;have BK201 := n2_;have BK207 := n3_;have BK211 := n4_;have BK214 := n5_;have HB := n6_;clear n0_ n1_ n2_ n3_ n4_ n5_ n6_;(try clear hb);(try clear hb2);(try clear hk);(try clear hi)) | ((with_reducible refine zbC (N := 13) rfl ?_);refine zbz ?hg (N := 13) ?hd (cs := #[.int .i64 0, .int .i64 0]) (t := 30) ?hr ?_;(case hd => rfl);(case hg => rfl);(case hr => first | (go_simp;done) | (go_simp;rfl));intro gb224 hg w184 hbox hb;have n0_ := zk.mk (zu (g := gb199) (o := .cells #[.int .i64 t193, .int .i64 t194] 24 (0, 0)) (by (with_reducible repeat (first | refine za ?_ _ | refine zf ?_ | refine ze ?_ _));exact BK199.out) hb);have n1_ := zk.mk (zu (g := gb200) (o := .cells #[.int .i64 t195, .int .i64 t196] 24 (0, 0)) (by (with_reducible repeat (first | refine za ?_ _ | refine zf ?_ | refine ze ?_ _));exact BK200.out) hb);have n2_ := zk.mk (zu (g := gb201) (o := .cells #[.int .i64 t197, .int .i64 t198] 24 (0, 0)) (by (with_reducible repeat (first | refine za ?_ _ | refine zf ?_ | refine ze ?_ _));exact BK201.out) hb);have n3_ := zk.mk (zu (g := gb207) (o := .cells #[.int .i64 t204, .int .i64 t205] 30 (0, 0)) (by (with_reducible repeat (first | refine za ?_ _ | refine zf ?_ | refine ze ?_ _));exact BK207.out) hb);have n4_ := zk.mk (zu (g := gb211) (o := .cells #[.int .i64 t208, .int .i64 t209] 30 (0, 0)) (by (with_reducible repeat (first | refine za ?_ _ | refine zf ?_ | refine ze ?_ _));exact BK211.out) hb);have n5_ := zk.mk (zu (g := gb214) (o := .cells #[.int .i64 t212, .int .i64 t213] 30 (0, 0)) (by (with_reducible repeat (first | refine za ?_ _ | refine zf ?_ | refine ze ?_ _));exact BK214.out) hb);have n6_ := zk.mk (zaj (by repeat (first | (with_reducible first | exact HB.out | apply zq | apply zm | apply zo | refine zh ?_ GE199.out | refine zh ?_ GE200.out | refine zh ?_ GE201.out | refine zh ?_ GE207.out | refine zh ?_ GE211.out | refine zh ?_ GE214.out) | exact HB.out)) hb);have n7_ := zk.mk (hbox);have n8_ := zk.mk ((by rw [hg];exact (zas (by repeat (first | (with_reducible first | exact HB.out | apply zq | apply zm | apply zo | refine zh ?_ GE199.out | refine zh ?_ GE200.out | refine zh ?_ GE201.out | refine zh ?_ GE207.out | refine zh ?_ GE211.out | refine zh ?_ GE214.out) | exact HB.out))) : w.heap.size <= gb224));have n9_ := zk.mk ((by rw [hg];exact (zas (by repeat (first | (with_reducible first | exact HB.out | apply zq | apply zm | apply zo | refine zh ?_ GE199.out | refine zh ?_ GE200.out | refine zh ?_ GE201.out | refine zh ?_ GE207.out | refine zh ?_ GE211.out | refine zh ?_ GE214.out) | exact HB.out))) : w.heap.size <= gb224));have n10_ := zk.mk ((by rw [hg];exact Nat.ne_of_lt (zai (g := gb199) (o := .cells #[.int .i64 t193, .int .i64 t194] 24 (0, 0)) (by (with_reducible repeat (first | refine za ?_ _ | refine zf ?_ | refine ze ?_ _));exact BK199.out)) : gb199 ≠ gb224));have n11_ := zk.mk ((by rw [hg];exact Nat.ne_of_gt (zai (g := gb199) (o := .cells #[.int .i64 t193, .int .i64 t194] 24 (0, 0)) (by (with_reducible repeat (first | refine za ?_ _ | refine zf ?_ | refine ze ?_ _));exact BK199.out)) : gb224 ≠ gb199));have n12_ := zk.mk ((by rw [hg];exact Nat.ne_of_lt (zai (g := gb200) (o := .cells #[.int .i64 t195, .int .i64 t196] 24 (0, 0)) (by (with_reducible repeat (first | refine za ?_ _ | refine zf ?_ | refine ze ?_ _));exact BK200.out)) : gb200 ≠ gb224));have n13_ := zk.mk ((by rw [hg];exact Nat.ne_of_gt (zai (g := gb200) (o := .cells #[.int .i64 t195, .int .i64 t196] 24 (0, 0)) (by (with_reducible repeat (first | refine za ?_ _ | refine zf ?_ | refine ze ?_ _));exact BK200.out)) : gb224 ≠ gb200));have n14_ := zk.mk ((by rw [hg];exact Nat.ne_of_lt (zai (g := gb201) (o := .cells #[.int .i64 t197, .int .i64 t198] 24 (0, 0)) (by (with_reducible repeat (first | refine za ?_ _ | refine zf ?_ | refine ze ?_ _));exact BK201.out)) : gb201 ≠ gb224));have n15_ := zk.mk ((by rw [hg];exact Nat.ne_of_gt (zai (g := gb201) (o := .cells #[.int .i64 t197, .int .i64 t198] 24 (0, 0)) (by (with_reducible repeat (first | refine za ?_ _ | refine zf ?_ | refine ze ?_ _));exact BK201.out)) : gb224 ≠ gb201));have n16_ := zk.mk ((by rw [hg];exact Nat.ne_of_lt (zai (g := gb207) (o := .cells #[.int .i64 t204, .int .i64 t205] 30 (0, 0)) (by (with_reducible repeat (first | refine za ?_ _ | refine zf ?_ | refine ze ?_ _));exact BK207.out)) : gb207 ≠ gb224));have n17_ := zk.mk ((by rw [hg];exact Nat.ne_of_gt (zai (g := gb207) (o := .cells #[.int .i64 t204, .int .i64 t205] 30 (0, 0)) (by (with_reducible repeat (first | refine za ?_ _ | refine zf ?_ | refine ze ?_ _));exact BK207.out)) : gb224 ≠ gb207));have n18_ := zk.mk ((by rw [hg];exact Nat.ne_of_lt (zai (g := gb211) (o := .cells #[.int .i64 t208, .int .i64 t209] 30 (0, 0)) (by (with_reducible repeat (first | refine za ?_ _ | refine zf ?_ | refine ze ?_ _));exact BK211.out)) : gb211 ≠ gb224));have n19_ := zk.mk ((by rw [hg];exact Nat.ne_of_gt (zai (g := gb211) (o := .cells #[.int .i64 t208, .int .i64 t209] 30 (0, 0)) (by (with_reducible repeat (first | refine za ?_ _ | refine zf ?_ | refine ze ?_ _));exact BK211.out)) : gb224 ≠ gb211));have n20_ := zk.mk ((by rw [hg];exact Nat.ne_of_lt (zai (g := gb214) (o := .cells #[.int .i64 t212, .int .i64 t213] 30 (0, 0)) (by (with_reducible repeat (first | refine za ?_ _ | refine zf ?_ | refine ze ?_ _));exact BK214.out)) : gb214 ≠ gb224));have n21_ := zk.mk ((by rw [hg];exact Nat.ne_of_gt (zai (g := gb214) (o := .cells #[.int .i64 t212, .int .i64 t213] 30 (0, 0)) (by (with_reducible repeat (first | refine za ?_ _ | refine zf ?_ | refine ze ?_ _));exact BK214.out)) : gb224 ≠ gb214));clear BK199;clear BK200;clear BK201;clear BK207;clear BK211;clear BK214;clear HB;have BK199 := n0_;have BK200 := n1_;have BK201 := n2_;have BK207 := n3_;have BK211 := n4_;have BK214 := n5_;have HB := n6_;have BK224 := n7_;have GW224 := n8_;have GE224 := n9_;have NB199_224 := n10_;have NB224_199 := n11_;have NB200_224 := n12_;have NB224_200 := n13_;have NB201_224 := n14_;have NB224_201 := n15_;have NB207_224 := n16_;have NB224_207 := n17_;have NB211_224 := n18_;have NB224_211 := n19_;have NB214_224 := n20_;have NB224_214 := n21_;clear n0_ n1_ n2_ n3_ n4_ n5_ n6_ n7_ n8_ n9_ n10_ n11_ n12_ n13_ n14_ n15_ n16_ n17_ n18_ n19_ n20_ n21_;clear hb hbox hg;have hnb185 := NB224_199.out;have hnc185 := NB199_224.out;have hnb186 := NB224_200.out;have hnc186 := NB200_224.out;have hnb187 := NB224_201.out;have hnc187 := NB201_224.out;have hnb188 := NB224_207.out;have hnc188 := NB207_224.out;have hnb189 := NB224_211.out;have hnc189 := NB211_224.out;have hnb190 := NB224_214.out;have hnc190 := NB214_224.out;have hcz191_0 : w184.cell? ⟨gb224, 0, none⟩ = some (.int .i64 0) := (zw BK224.out 0).trans rfl;have hcz191_1 : w184.cell? ⟨gb224, 1, none⟩ = some (.int .i64 0) := (zw BK224.out 1).trans rfl;have hfz191_0 := zt BK224.out 0;have hfz191_1 := zt BK224.out 1) | (go_at_call 18;(with_reducible refine (zfV.calls t221 t222 0 t225 _ A171.out).mono ?_);rintro e w192 ⟨rfl, hb⟩;have n0_ := zk.mk (zu (g := gb199) (o := .cells #[.int .i64 t193, .int .i64 t194] 24 (0, 0)) (by (with_reducible repeat (first | refine za ?_ _ | refine zf ?_ | refine ze ?_ _));refine zy ?_ NB199_224.out _;(with_reducible repeat (first | refine za ?_ _ | refine zf ?_ | refine ze ?_ _));refine zy ?_ NB199_224.out _;(with_reducible repeat (first | refine za ?_ _ | refine zf ?_ | refine ze ?_ _));exact BK199.out) hb);have n1_ := zk.mk (zu (g := gb200) (o := .cells #[.int .i64 t195, .int .i64 t196] 24 (0, 0)) (by (with_reducible repeat (first | refine za ?_ _ | refine zf ?_ | refine ze ?_ _));refine zy ?_ NB200_224.out _;(with_reducible repeat (first | refine za ?_ _ | refine zf ?_ | refine ze ?_ _));refine zy ?_ NB200_224.out _;(with_reducible repeat (first | refine za ?_ _ | refine zf ?_ | refine ze ?_ _));exact BK200.out) hb);have n2_ := zk.mk (zu (g := gb201) (o := .cells #[.int .i64 t197, .int .i64 t198] 24 (0, 0)) (by (with_reducible repeat (first | refine za ?_ _ | refine zf ?_ | refine ze ?_ _));refine zy ?_ NB201_224.out _;(with_reducible repeat (first | refine za ?_ _ | refine zf ?_ | refine ze ?_ _));refine zy ?_ NB201_224.out _;(with_reducible repeat (first | refine za ?_ _ | refine zf ?_ | refine ze ?_ _));exact BK201.out) hb);have n3_ := zk.mk (zu (g := gb207) (o := .cells #[.int .i64 t204, .int .i64 t205] 30 (0, 0)) (by (with_reducible repeat (first | refine za ?_ _ | refine zf ?_ | refine ze ?_ _));refine zy ?_ NB207_224.out _;(with_reducible repeat (first | refine za ?_ _ | refine zf ?_ | refine ze ?_ _));refine zy ?_ NB207_224.out _;(with_reducible repeat (first | refine za ?_ _ | refine zf ?_ | refine ze ?_ _));exact BK207.out) hb);have n4_ := zk.mk (zu (g := gb211) (o := .cells #[.int .i64 t208, .int .i64 t209] 30 (0, 0)) (by (with_reducible repeat (first | refine za ?_ _ | refine zf ?_ | refine ze ?_ _));refine zy ?_ NB211_224.out _;(with_reducible repeat (first | refine za ?_ _ | refine zf ?_ | refine ze ?_ _));refine zy ?_ NB211_224.out _;(with_reducible repeat (first | refine za ?_ _ | refine zf ?_ | refine ze ?_ _));exact BK211.out) hb);have n5_ := zk.mk (zu (g := gb214) (o := .cells #[.int .i64 t212, .int .i64 t213] 30 (0, 0)) (by (with_reducible repeat (first | refine za ?_ _ | refine zf ?_ | refine ze ?_ _));refine zy ?_ NB214_224.out _;(with_reducible repeat (first | refine za ?_ _ | refine zf ?_ | refine ze ?_ _));refine zy ?_ NB214_224.out _;(with_reducible repeat (first | refine za ?_ _ | refine zf ?_ | refine ze ?_ _));exact BK214.out) hb);have n6_ := zk.mk (zu (g := gb224) (o := .cells #[.int .i64 t221, .int .i64 t222] 30 (0, 0)) (by (with_reducible repeat (first | refine za ?_ _ | refine zf ?_ | refine ze ?_ _));refine zao (cs := #[.int .i64 t221, .int .i64 0]) ?_ 1 _ rfl;(with_reducible repeat (first | refine za ?_ _ | refine zf ?_ | refine ze ?_ _));refine zao (cs := #[.int .i64 0, .int .i64 0]) ?_ 0 _ rfl;(with_reducible repeat (first | refine za ?_ _ | refine zf ?_ | refine ze ?_ _));exact BK224.out) hb);have n7_ := zk.mk (zaj (by repeat (first | (with_reducible first | exact HB.out | apply zq | apply zm | apply zo | refine zh ?_ GE199.out | refine zh ?_ GE200.out | refine zh ?_ GE201.out | refine zh ?_ GE207.out | refine zh ?_ GE211.out | refine zh ?_ GE214.out | refine zh ?_ GE224.out) | exact HB.out)) hb);clear BK199;clear BK200;clear BK201;clear BK207;clear BK211;clear BK214;clear BK224;clear HB;have BK199 := n0_;have BK200 := n1_;have BK201 := n2_;have BK207 := n3_;have BK211 := n4_;have BK214 := n5_;have BK224 := n6_;have HB := n7_;clear n0_ n1_ n2_ n3_ n4_ n5_ n6_ n7_;(try clear hb);(try clear hb2);(try clear hk);(try clear hi)))
                    go_ret
                    exact ⟨by first | rfl | (simp [zan, zam] <;> rfl) | (simp [*, zan, zam] <;> rfl), by repeat (first | (with_reducible first | exact HB.out | apply zq | apply zm | apply zo | refine zh ?_ GE199.out | refine zh ?_ GE200.out | refine zh ?_ GE201.out | refine zh ?_ GE207.out | refine zh ?_ GE211.out | refine zh ?_ GE214.out | refine zh ?_ GE224.out) | exact HB.out)⟩
                  · rw [if_neg c170] at H
                    have c170b0 : (t223 == 0) = false := beq_eq_false_iff_ne.mpr c170
                    have c170b1 : (t223 != 0) = true := bne_iff_ne.mpr c170
                    obtain rfl := Option.some.inj H
                    have hnb193 := NB199_200.out
                    have hnc193 := NB200_199.out
                    have hnb194 := NB199_201.out
                    have hnc194 := NB201_199.out
                    have hnb195 := NB199_207.out
                    have hnc195 := NB207_199.out
                    have hnb196 := NB199_211.out
                    have hnc196 := NB211_199.out
                    have hnb197 := NB199_214.out
                    have hnc197 := NB214_199.out
                    have hcz198_0 : wc.cell? ⟨gb199, 0, none⟩ = some (.int .i64 t193) := (zw BK199.out 0).trans rfl
                    have hcz198_1 : wc.cell? ⟨gb199, 1, none⟩ = some (.int .i64 t194) := (zw BK199.out 1).trans rfl
                    have hfz198_0 := zt BK199.out 0
                    have hfz198_1 := zt BK199.out 1
                    have hnb199 := NB200_201.out
                    have hnc199 := NB201_200.out
                    have hnb200 := NB200_207.out
                    have hnc200 := NB207_200.out
                    have hnb201 := NB200_211.out
                    have hnc201 := NB211_200.out
                    have hnb202 := NB200_214.out
                    have hnc202 := NB214_200.out
                    have hcz203_0 : wc.cell? ⟨gb200, 0, none⟩ = some (.int .i64 t195) := (zw BK200.out 0).trans rfl
                    have hcz203_1 : wc.cell? ⟨gb200, 1, none⟩ = some (.int .i64 t196) := (zw BK200.out 1).trans rfl
                    have hfz203_0 := zt BK200.out 0
                    have hfz203_1 := zt BK200.out 1
                    go_wp2_with (first | ((with_reducible refine zah (f := 14) rfl ?_);refine zbE (some 96) rfl rfl Tryz.func14 (by kernel_rfl) rfl #[.agg #[.int .i64 t193, .int .i64 t194], .agg #[.int .i64 t195, .int .i64 t196], .agg #[.int .i64 t193, .int .i64 t194]] rfl (by (try simp only [List.map_toArray, List.map_cons, List.map_nil]);first | done | rfl | (simp only [List.length_drop, List.length_take];rfl)) ?_;(with_reducible refine (zba.calls t193 t194 t195 t196 t193 t194 t221 t222 t223 _ A169.out).mono ?_);rintro e w204 ⟨rfl, hb⟩;refine ⟨_, rfl, ?_⟩;have n0_ := zk.mk (zu (g := gb199) (o := .cells #[.int .i64 t193, .int .i64 t194] 24 (0, 0)) (by (with_reducible repeat (first | refine za ?_ _ | refine zf ?_ | refine ze ?_ _));exact BK199.out) hb);have n1_ := zk.mk (zu (g := gb200) (o := .cells #[.int .i64 t195, .int .i64 t196] 24 (0, 0)) (by (with_reducible repeat (first | refine za ?_ _ | refine zf ?_ | refine ze ?_ _));exact BK200.out) hb);have n2_ := zk.mk (zu (g := gb201) (o := .cells #[.int .i64 t197, .int .i64 t198] 24 (0, 0)) (by (with_reducible repeat (first | refine za ?_ _ | refine zf ?_ | refine ze ?_ _));exact BK201.out) hb);have n3_ := zk.mk (zu (g := gb207) (o := .cells #[.int .i64 t204, .int .i64 t205] 30 (0, 0)) (by (with_reducible repeat (first | refine za ?_ _ | refine zf ?_ | refine ze ?_ _));exact BK207.out) hb);have n4_ := zk.mk (zu (g := gb211) (o := .cells #[.int .i64 t208, .int .i64 t209] 30 (0, 0)) (by (with_reducible repeat (first | refine za ?_ _ | refine zf ?_ | refine ze ?_ _));exact BK211.out) hb);have n5_ := zk.mk (zu (g := gb214) (o := .cells #[.int .i64 t212, .int .i64 t213] 30 (0, 0)) (by (with_reducible repeat (first | refine za ?_ _ | refine zf ?_ | refine ze ?_ _));exact BK214.out) hb);have n6_ := zk.mk (zaj (by repeat (first | (with_reducible first | exact HB.out | apply zq | apply zm | apply zo | refine zh ?_ GE199.out | refine zh ?_ GE200.out | refine zh ?_ GE201.out | refine zh ?_ GE207.out | refine zh ?_ GE211.out | refine zh ?_ GE214.out) | exact HB.out)) hb);clear BK199;clear BK200;clear BK201;clear BK207;clear BK211;clear BK214;clear HB;have BK199 := n0_;have BK200 := n1_;have BK201 := n2_;have BK207 := n3_;have BK211 := n4_;have BK214 := n5_;have HB := n6_;clear n0_ n1_ n2_ n3_ n4_ n5_ n6_;(try clear hb);(try clear hb2);(try clear hk);(try clear hi)) | ((with_reducible refine zbC (N := 13) rfl ?_);refine zbz ?hg (N := 13) ?hd (cs := #[.int .i64 0, .int .i64 0]) (t := 30) ?hr ?_;(case hd => rfl);(case hg => rfl);(case hr => first | (go_simp;done) | (go_simp;rfl));intro gb224 hg w205 hbox hb;have n0_ := zk.mk (zu (g := gb199) (o := .cells #[.int .i64 t193, .int .i64 t194] 24 (0, 0)) (by (with_reducible repeat (first | refine za ?_ _ | refine zf ?_ | refine ze ?_ _));exact BK199.out) hb);have n1_ := zk.mk (zu (g := gb200) (o := .cells #[.int .i64 t195, .int .i64 t196] 24 (0, 0)) (by (with_reducible repeat (first | refine za ?_ _ | refine zf ?_ | refine ze ?_ _));exact BK200.out) hb);have n2_ := zk.mk (zu (g := gb201) (o := .cells #[.int .i64 t197, .int .i64 t198] 24 (0, 0)) (by (with_reducible repeat (first | refine za ?_ _ | refine zf ?_ | refine ze ?_ _));exact BK201.out) hb);have n3_ := zk.mk (zu (g := gb207) (o := .cells #[.int .i64 t204, .int .i64 t205] 30 (0, 0)) (by (with_reducible repeat (first | refine za ?_ _ | refine zf ?_ | refine ze ?_ _));exact BK207.out) hb);have n4_ := zk.mk (zu (g := gb211) (o := .cells #[.int .i64 t208, .int .i64 t209] 30 (0, 0)) (by (with_reducible repeat (first | refine za ?_ _ | refine zf ?_ | refine ze ?_ _));exact BK211.out) hb);have n5_ := zk.mk (zu (g := gb214) (o := .cells #[.int .i64 t212, .int .i64 t213] 30 (0, 0)) (by (with_reducible repeat (first | refine za ?_ _ | refine zf ?_ | refine ze ?_ _));exact BK214.out) hb);have n6_ := zk.mk (zaj (by repeat (first | (with_reducible first | exact HB.out | apply zq | apply zm | apply zo | refine zh ?_ GE199.out | refine zh ?_ GE200.out | refine zh ?_ GE201.out | refine zh ?_ GE207.out | refine zh ?_ GE211.out | refine zh ?_ GE214.out) | exact HB.out)) hb);have n7_ := zk.mk (hbox);have n8_ := zk.mk ((by rw [hg];exact (zas (by repeat (first | (with_reducible first | exact HB.out | apply zq | apply zm | apply zo | refine zh ?_ GE199.out | refine zh ?_ GE200.out | refine zh ?_ GE201.out | refine zh ?_ GE207.out | refine zh ?_ GE211.out | refine zh ?_ GE214.out) | exact HB.out))) : w.heap.size <= gb224));have n9_ := zk.mk ((by rw [hg];exact (zas (by repeat (first | (with_reducible first | exact HB.out | apply zq | apply zm | apply zo | refine zh ?_ GE199.out | refine zh ?_ GE200.out | refine zh ?_ GE201.out | refine zh ?_ GE207.out | refine zh ?_ GE211.out | refine zh ?_ GE214.out) | exact HB.out))) : w.heap.size <= gb224));have n10_ := zk.mk ((by rw [hg];exact Nat.ne_of_lt (zai (g := gb199) (o := .cells #[.int .i64 t193, .int .i64 t194] 24 (0, 0)) (by (with_reducible repeat (first | refine za ?_ _ | refine zf ?_ | refine ze ?_ _));exact BK199.out)) : gb199 ≠ gb224));have n11_ := zk.mk ((by rw [hg];exact Nat.ne_of_gt (zai (g := gb199) (o := .cells #[.int .i64 t193, .int .i64 t194] 24 (0, 0)) (by (with_reducible repeat (first | refine za ?_ _ | refine zf ?_ | refine ze ?_ _));exact BK199.out)) : gb224 ≠ gb199));have n12_ := zk.mk ((by rw [hg];exact Nat.ne_of_lt (zai (g := gb200) (o := .cells #[.int .i64 t195, .int .i64 t196] 24 (0, 0)) (by (with_reducible repeat (first | refine za ?_ _ | refine zf ?_ | refine ze ?_ _));exact BK200.out)) : gb200 ≠ gb224));have n13_ := zk.mk ((by rw [hg];exact Nat.ne_of_gt (zai (g := gb200) (o := .cells #[.int .i64 t195, .int .i64 t196] 24 (0, 0)) (by (with_reducible repeat (first | refine za ?_ _ | refine zf ?_ | refine ze ?_ _));exact BK200.out)) : gb224 ≠ gb200));have n14_ := zk.mk ((by rw [hg];exact Nat.ne_of_lt (zai (g := gb201) (o := .cells #[.int .i64 t197, .int .i64 t198] 24 (0, 0)) (by (with_reducible repeat (first | refine za ?_ _ | refine zf ?_ | refine ze ?_ _));exact BK201.out)) : gb201 ≠ gb224));have n15_ := zk.mk ((by rw [hg];exact Nat.ne_of_gt (zai (g := gb201) (o := .cells #[.int .i64 t197, .int .i64 t198] 24 (0, 0)) (by (with_reducible repeat (first | refine za ?_ _ | refine zf ?_ | refine ze ?_ _));exact BK201.out)) : gb224 ≠ gb201));have n16_ := zk.mk ((by rw [hg];exact Nat.ne_of_lt (zai (g := gb207) (o := .cells #[.int .i64 t204, .int .i64 t205] 30 (0, 0)) (by (with_reducible repeat (first | refine za ?_ _ | refine zf ?_ | refine ze ?_ _));exact BK207.out)) : gb207 ≠ gb224));have n17_ := zk.mk ((by rw [hg];exact Nat.ne_of_gt (zai (g := gb207) (o := .cells #[.int .i64 t204, .int .i64 t205] 30 (0, 0)) (by (with_reducible repeat (first | refine za ?_ _ | refine zf ?_ | refine ze ?_ _));exact BK207.out)) : gb224 ≠ gb207));have n18_ := zk.mk ((by rw [hg];exact Nat.ne_of_lt (zai (g := gb211) (o := .cells #[.int .i64 t208, .int .i64 t209] 30 (0, 0)) (by (with_reducible repeat (first | refine za ?_ _ | refine zf ?_ | refine ze ?_ _));exact BK211.out)) : gb211 ≠ gb224));have n19_ := zk.mk ((by rw [hg];exact Nat.ne_of_gt (zai (g := gb211) (o := .cells #[.int .i64 t208, .int .i64 t209] 30 (0, 0)) (by (with_reducible repeat (first | refine za ?_ _ | refine zf ?_ | refine ze ?_ _));exact BK211.out)) : gb224 ≠ gb211));have n20_ := zk.mk ((by rw [hg];exact Nat.ne_of_lt (zai (g := gb214) (o := .cells #[.int .i64 t212, .int .i64 t213] 30 (0, 0)) (by (with_reducible repeat (first | refine za ?_ _ | refine zf ?_ | refine ze ?_ _));exact BK214.out)) : gb214 ≠ gb224));have n21_ := zk.mk ((by rw [hg];exact Nat.ne_of_gt (zai (g := gb214) (o := .cells #[.int .i64 t212, .int .i64 t213] 30 (0, 0)) (by (with_reducible repeat (first | refine za ?_ _ | refine zf ?_ | refine ze ?_ _));exact BK214.out)) : gb224 ≠ gb214));clear BK199;clear BK200;clear BK201;clear BK207;clear BK211;clear BK214;clear HB;have BK199 := n0_;have BK200 := n1_;have BK201 := n2_;have BK207 := n3_;have BK211 := n4_;have BK214 := n5_;have HB := n6_;have BK224 := n7_;have GW224 := n8_;have GE224 := n9_;have NB199_224 := n10_;have NB224_199 := n11_;have NB200_224 := n12_;have NB224_200 := n13_;have NB201_224 := n14_;have NB224_201 := n15_;have NB207_224 := n16_;have NB224_207 := n17_;have NB211_224 := n18_;have NB224_211 := n19_;have NB214_224 := n20_;have NB224_214 := n21_;clear n0_ n1_ n2_ n3_ n4_ n5_ n6_ n7_ n8_ n9_ n10_ n11_ n12_ n13_ n14_ n15_ n16_ n17_ n18_ n19_ n20_ n21_;clear hb hbox hg;have hnb206 := NB224_199.out;have hnc206 := NB199_224.out;have hnb207 := NB224_200.out;have hnc207 := NB200_224.out;have hnb208 := NB224_201.out;have hnc208 := NB201_224.out;have hnb209 := NB224_207.out;have hnc209 := NB207_224.out;have hnb210 := NB224_211.out;have hnc210 := NB211_224.out;have hnb211 := NB224_214.out;have hnc211 := NB214_224.out;have hcz212_0 : w205.cell? ⟨gb224, 0, none⟩ = some (.int .i64 0) := (zw BK224.out 0).trans rfl;have hcz212_1 : w205.cell? ⟨gb224, 1, none⟩ = some (.int .i64 0) := (zw BK224.out 1).trans rfl;have hfz212_0 := zt BK224.out 0;have hfz212_1 := zt BK224.out 1))
                    go_ret
                    exact ⟨by first | rfl | (simp [zan, zam] <;> rfl) | (simp [*, zan, zam] <;> rfl), by repeat (first | (with_reducible first | exact HB.out | apply zq | apply zm | apply zo | refine zh ?_ GE199.out | refine zh ?_ GE200.out | refine zh ?_ GE201.out | refine zh ?_ GE207.out | refine zh ?_ GE211.out | refine zh ?_ GE214.out | refine zh ?_ GE224.out) | exact HB.out)⟩
    · rw [if_neg c8] at H
      have c8b0 : (t203 == 0) = false := beq_eq_false_iff_ne.mpr c8
      have c8b1 : (t203 != 0) = true := bne_iff_ne.mpr c8
      obtain rfl := Option.some.inj H
      go_enter Tryz.func3, Tryz.ntmps3
      go_wp2_with (first | ((with_reducible refine zah (f := 12) rfl ?_);refine zbE (some 20) rfl rfl Tryz.func12 (by kernel_rfl) rfl #[.slice A0 l0.length c0] rfl (by (try simp only [List.map_toArray, List.map_cons, List.map_nil]);first | done | rfl | (simp only [List.length_drop, List.length_take];rfl)) ?_;(with_reducible refine (zat.calls k _ _ l0 t193 t194 t195 t196 t197 t198 _ ?side1 ?side2 A3.out).mono ?_);(case side1 => repeat (first | exact HR0.out | (with_reducible refine Kd.C_alloc ?_ _) | (with_reducible refine Kd.C_drewN ?_ _) | (with_reducible refine Kd.C_drew ?_)));(case side2 => exact HC0.out);rintro e w213 ⟨rfl, hb⟩;refine ⟨_, rfl, ?_⟩;have n0_ := zk.mk (zaj (by repeat (first | (with_reducible first | exact HB.out | apply zq | apply zm | apply zo) | exact HB.out)) hb);clear HB;have HB := n0_;clear n0_;(try clear hb);(try clear hb2);(try clear hk);(try clear hi)) | ((with_reducible refine zbC (N := 3) rfl ?_);refine zbz ?hg (N := 3) ?hd (cs := #[.int .i64 0, .int .i64 0]) (t := 24) ?hr ?_;(case hd => rfl);(case hg => rfl);(case hr => first | (go_simp;done) | (go_simp;rfl));intro gb199 hg w214 hbox hb;have n0_ := zk.mk (zaj (by repeat (first | (with_reducible first | exact HB.out | apply zq | apply zm | apply zo) | exact HB.out)) hb);have n1_ := zk.mk (hbox);have n2_ := zk.mk ((by rw [hg];exact (zas (by repeat (first | (with_reducible first | exact HB.out | apply zq | apply zm | apply zo) | exact HB.out))) : w.heap.size <= gb199));have n3_ := zk.mk ((by rw [hg];exact (zas (by repeat (first | (with_reducible first | exact HB.out | apply zq | apply zm | apply zo) | exact HB.out))) : w.heap.size <= gb199));clear HB;have HB := n0_;have BK199 := n1_;have GW199 := n2_;have GE199 := n3_;clear n0_ n1_ n2_ n3_;clear hb hbox hg) | ((with_reducible refine zbC (N := 4) rfl ?_);refine zbz ?hg (N := 4) ?hd (cs := #[.int .i64 0, .int .i64 0]) (t := 24) ?hr ?_;(case hd => rfl);(case hg => rfl);(case hr => first | (go_simp;done) | (go_simp;rfl));intro gb200 hg w215 hbox hb;have n0_ := zk.mk (zu (g := gb199) (o := .cells #[.int .i64 0, .int .i64 0] 24 (0, 0)) (by (with_reducible repeat (first | refine za ?_ _ | refine zf ?_ | refine ze ?_ _));exact BK199.out) hb);have n1_ := zk.mk (zaj (by repeat (first | (with_reducible first | exact HB.out | apply zq | apply zm | apply zo | refine zh ?_ GE199.out) | exact HB.out)) hb);have n2_ := zk.mk (hbox);have n3_ := zk.mk ((by rw [hg];exact (zas (by repeat (first | (with_reducible first | exact HB.out | apply zq | apply zm | apply zo | refine zh ?_ GE199.out) | exact HB.out))) : w.heap.size <= gb200));have n4_ := zk.mk ((by rw [hg];exact (zas (by repeat (first | (with_reducible first | exact HB.out | apply zq | apply zm | apply zo | refine zh ?_ GE199.out) | exact HB.out))) : w.heap.size <= gb200));have n5_ := zk.mk ((by rw [hg];exact Nat.ne_of_lt (zai (g := gb199) (o := .cells #[.int .i64 0, .int .i64 0] 24 (0, 0)) (by (with_reducible repeat (first | refine za ?_ _ | refine zf ?_ | refine ze ?_ _));exact BK199.out)) : gb199 ≠ gb200));have n6_ := zk.mk ((by rw [hg];exact Nat.ne_of_gt (zai (g := gb199) (o := .cells #[.int .i64 0, .int .i64 0] 24 (0, 0)) (by (with_reducible repeat (first | refine za ?_ _ | refine zf ?_ | refine ze ?_ _));exact BK199.out)) : gb200 ≠ gb199));clear BK199;clear HB;have BK199 := n0_;have HB := n1_;have BK200 := n2_;have GW200 := n3_;have GE200 := n4_;have NB199_200 := n5_;have NB200_199 := n6_;clear n0_ n1_ n2_ n3_ n4_ n5_ n6_;clear hb hbox hg) | ((with_reducible refine zbC (N := 5) rfl ?_);refine zbz ?hg (N := 5) ?hd (cs := #[.int .i64 0, .int .i64 0]) (t := 24) ?hr ?_;(case hd => rfl);(case hg => rfl);(case hr => first | (go_simp;done) | (go_simp;rfl));intro gb201 hg w216 hbox hb;have n0_ := zk.mk (zu (g := gb199) (o := .cells #[.int .i64 0, .int .i64 0] 24 (0, 0)) (by (with_reducible repeat (first | refine za ?_ _ | refine zf ?_ | refine ze ?_ _));exact BK199.out) hb);have n1_ := zk.mk (zu (g := gb200) (o := .cells #[.int .i64 0, .int .i64 0] 24 (0, 0)) (by (with_reducible repeat (first | refine za ?_ _ | refine zf ?_ | refine ze ?_ _));exact BK200.out) hb);have n2_ := zk.mk (zaj (by repeat (first | (with_reducible first | exact HB.out | apply zq | apply zm | apply zo | refine zh ?_ GE199.out | refine zh ?_ GE200.out) | exact HB.out)) hb);have n3_ := zk.mk (hbox);have n4_ := zk.mk ((by rw [hg];exact (zas (by repeat (first | (with_reducible first | exact HB.out | apply zq | apply zm | apply zo | refine zh ?_ GE199.out | refine zh ?_ GE200.out) | exact HB.out))) : w.heap.size <= gb201));have n5_ := zk.mk ((by rw [hg];exact (zas (by repeat (first | (with_reducible first | exact HB.out | apply zq | apply zm | apply zo | refine zh ?_ GE199.out | refine zh ?_ GE200.out) | exact HB.out))) : w.heap.size <= gb201));have n6_ := zk.mk ((by rw [hg];exact Nat.ne_of_lt (zai (g := gb199) (o := .cells #[.int .i64 0, .int .i64 0] 24 (0, 0)) (by (with_reducible repeat (first | refine za ?_ _ | refine zf ?_ | refine ze ?_ _));exact BK199.out)) : gb199 ≠ gb201));have n7_ := zk.mk ((by rw [hg];exact Nat.ne_of_gt (zai (g := gb199) (o := .cells #[.int .i64 0, .int .i64 0] 24 (0, 0)) (by (with_reducible repeat (first | refine za ?_ _ | refine zf ?_ | refine ze ?_ _));exact BK199.out)) : gb201 ≠ gb199));have n8_ := zk.mk ((by rw [hg];exact Nat.ne_of_lt (zai (g := gb200) (o := .cells #[.int .i64 0, .int .i64 0] 24 (0, 0)) (by (with_reducible repeat (first | refine za ?_ _ | refine zf ?_ | refine ze ?_ _));exact BK200.out)) : gb200 ≠ gb201));have n9_ := zk.mk ((by rw [hg];exact Nat.ne_of_gt (zai (g := gb200) (o := .cells #[.int .i64 0, .int .i64 0] 24 (0, 0)) (by (with_reducible repeat (first | refine za ?_ _ | refine zf ?_ | refine ze ?_ _));exact BK200.out)) : gb201 ≠ gb200));clear BK199;clear BK200;clear HB;have BK199 := n0_;have BK200 := n1_;have HB := n2_;have BK201 := n3_;have GW201 := n4_;have GE201 := n5_;have NB199_201 := n6_;have NB201_199 := n7_;have NB200_201 := n8_;have NB201_200 := n9_;clear n0_ n1_ n2_ n3_ n4_ n5_ n6_ n7_ n8_ n9_;clear hb hbox hg;have hnb217 := NB199_200.out;have hnc217 := NB200_199.out;have hnb218 := NB199_201.out;have hnc218 := NB201_199.out;have hcz219_0 : w216.cell? ⟨gb199, 0, none⟩ = some (.int .i64 0) := (zw BK199.out 0).trans rfl;have hcz219_1 : w216.cell? ⟨gb199, 1, none⟩ = some (.int .i64 0) := (zw BK199.out 1).trans rfl;have hfz219_0 := zt BK199.out 0;have hfz219_1 := zt BK199.out 1;have hnb220 := NB200_201.out;have hnc220 := NB201_200.out;have hcz221_0 : w216.cell? ⟨gb200, 0, none⟩ = some (.int .i64 0) := (zw BK200.out 0).trans rfl;have hcz221_1 : w216.cell? ⟨gb200, 1, none⟩ = some (.int .i64 0) := (zw BK200.out 1).trans rfl;have hfz221_0 := zt BK200.out 0;have hfz221_1 := zt BK200.out 1;have hcz222_0 : w216.cell? ⟨gb201, 0, none⟩ = some (.int .i64 0) := (zw BK201.out 0).trans rfl;have hcz222_1 : w216.cell? ⟨gb201, 1, none⟩ = some (.int .i64 0) := (zw BK201.out 1).trans rfl;have hfz222_0 := zt BK201.out 0;have hfz222_1 := zt BK201.out 1) | ((with_reducible refine zah (f := 13) rfl ?_);refine zbE (some 28) rfl rfl Tryz.func13 (by kernel_rfl) rfl #[.agg #[.int .i64 t193, .int .i64 t194], .agg #[.int .i64 t195, .int .i64 t196], .agg #[.int .i64 t197, .int .i64 t198]] rfl (by (try simp only [List.map_toArray, List.map_cons, List.map_nil]);first | done | rfl | (simp only [List.length_drop, List.length_take];rfl)) ?_;(with_reducible refine (zdi.calls t193 t194 t195 t196 t197 t198 t202 t203 _ A4.out).mono ?_);rintro e w223 ⟨rfl, hb⟩;refine ⟨_, rfl, ?_⟩;have n0_ := zk.mk (zu (g := gb199) (o := .cells #[.int .i64 t193, .int .i64 t194] 24 (0, 0)) (by (with_reducible repeat (first | refine za ?_ _ | refine zf ?_ | refine ze ?_ _));refine zy ?_ NB199_201.out _;(with_reducible repeat (first | refine za ?_ _ | refine zf ?_ | refine ze ?_ _));refine zy ?_ NB199_201.out _;(with_reducible repeat (first | refine za ?_ _ | refine zf ?_ | refine ze ?_ _));refine zy ?_ NB199_200.out _;(with_reducible repeat (first | refine za ?_ _ | refine zf ?_ | refine ze ?_ _));refine zy ?_ NB199_200.out _;(with_reducible repeat (first | refine za ?_ _ | refine zf ?_ | refine ze ?_ _));refine zao (cs := #[.int .i64 t193, .int .i64 0]) ?_ 1 _ rfl;(with_reducible repeat (first | refine za ?_ _ | refine zf ?_ | refine ze ?_ _));refine zao (cs := #[.int .i64 0, .int .i64 0]) ?_ 0 _ rfl;(with_reducible repeat (first | refine za ?_ _ | refine zf ?_ | refine ze ?_ _));exact BK199.out) hb);have n1_ := zk.mk (zu (g := gb200) (o := .cells #[.int .i64 t195, .int .i64 t196] 24 (0, 0)) (by (with_reducible repeat (first | refine za ?_ _ | refine zf ?_ | refine ze ?_ _));refine zy ?_ NB200_201.out _;(with_reducible repeat (first | refine za ?_ _ | refine zf ?_ | refine ze ?_ _));refine zy ?_ NB200_201.out _;(with_reducible repeat (first | refine za ?_ _ | refine zf ?_ | refine ze ?_ _));refine zao (cs := #[.int .i64 t195, .int .i64 0]) ?_ 1 _ rfl;(with_reducible repeat (first | refine za ?_ _ | refine zf ?_ | refine ze ?_ _));refine zao (cs := #[.int .i64 0, .int .i64 0]) ?_ 0 _ rfl;(with_reducible repeat (first | refine za ?_ _ | refine zf ?_ | refine ze ?_ _));refine zy ?_ NB200_199.out _;(with_reducible repeat (first | refine za ?_ _ | refine zf ?_ | refine ze ?_ _));refine zy ?_ NB200_199.out _;(with_reducible repeat (first | refine za ?_ _ | refine zf ?_ | refine ze ?_ _));exact BK200.out) hb);have n2_ := zk.mk (zu (g := gb201) (o := .cells #[.int .i64 t197, .int .i64 t198] 24 (0, 0)) (by (with_reducible repeat (first | refine za ?_ _ | refine zf ?_ | refine ze ?_ _));refine zao (cs := #[.int .i64 t197, .int .i64 0]) ?_ 1 _ rfl;(with_reducible repeat (first | refine za ?_ _ | refine zf ?_ | refine ze ?_ _));refine zao (cs := #[.int .i64 0, .int .i64 0]) ?_ 0 _ rfl;(with_reducible repeat (first | refine za ?_ _ | refine zf ?_ | refine ze ?_ _));refine zy ?_ NB201_200.out _;(with_reducible repeat (first | refine za ?_ _ | refine zf ?_ | refine ze ?_ _));refine zy ?_ NB201_200.out _;(with_reducible repeat (first | refine za ?_ _ | refine zf ?_ | refine ze ?_ _));refine zy ?_ NB201_199.out _;(with_reducible repeat (first | refine za ?_ _ | refine zf ?_ | refine ze ?_ _));refine zy ?_ NB201_199.out _;(with_reducible repeat (first | refine za ?_ _ | refine zf ?_ | refine ze ?_ _));exact BK201.out) hb);have n3_ := zk.mk (zaj (by repeat (first | (with_reducible first | exact HB.out | apply zq | apply zm | apply zo | refine zh ?_ GE199.out | refine zh ?_ GE200.out | refine zh ?_ GE201.out) | exact HB.out)) hb);clear BK199;clear BK200;clear BK201;clear HB;have BK199 := n0_;have BK200 := n1_;have BK201 := n2_;have HB := n3_;clear n0_ n1_ n2_ n3_;(try clear hb);(try clear hb2);(try clear hk);(try clear hi);have hcz224_0 : w223.cell? ⟨gb199, 0, none⟩ = some (.int .i64 t193) := (zw BK199.out 0).trans rfl;have hcz224_1 : w223.cell? ⟨gb199, 1, none⟩ = some (.int .i64 t194) := (zw BK199.out 1).trans rfl;have hfz224_0 := zt BK199.out 0;have hfz224_1 := zt BK199.out 1;have hcz225_0 : w223.cell? ⟨gb200, 0, none⟩ = some (.int .i64 t195) := (zw BK200.out 0).trans rfl;have hcz225_1 : w223.cell? ⟨gb200, 1, none⟩ = some (.int .i64 t196) := (zw BK200.out 1).trans rfl;have hfz225_0 := zt BK200.out 0;have hfz225_1 := zt BK200.out 1;have hcz226_0 : w223.cell? ⟨gb201, 0, none⟩ = some (.int .i64 t197) := (zw BK201.out 0).trans rfl;have hcz226_1 : w223.cell? ⟨gb201, 1, none⟩ = some (.int .i64 t198) := (zw BK201.out 1).trans rfl;have hfz226_0 := zt BK201.out 0;have hfz226_1 := zt BK201.out 1) | ((with_reducible refine zah (f := 14) rfl ?_);refine zbE (some 35) rfl rfl Tryz.func14 (by kernel_rfl) rfl #[.agg #[.int .i64 t193, .int .i64 t194], .agg #[.int .i64 t195, .int .i64 t196], .agg #[.int .i64 t197, .int .i64 t198]] rfl (by (try simp only [List.map_toArray, List.map_cons, List.map_nil]);first | done | rfl | (simp only [List.length_drop, List.length_take];rfl)) ?_;(with_reducible refine (zba.calls t193 t194 t195 t196 t197 t198 t204 t205 t206 _ A5.out).mono ?_);rintro e w227 ⟨rfl, hb⟩;refine ⟨_, rfl, ?_⟩;have n0_ := zk.mk (zu (g := gb199) (o := .cells #[.int .i64 t193, .int .i64 t194] 24 (0, 0)) (by (with_reducible repeat (first | refine za ?_ _ | refine zf ?_ | refine ze ?_ _));exact BK199.out) hb);have n1_ := zk.mk (zu (g := gb200) (o := .cells #[.int .i64 t195, .int .i64 t196] 24 (0, 0)) (by (with_reducible repeat (first | refine za ?_ _ | refine zf ?_ | refine ze ?_ _));exact BK200.out) hb);have n2_ := zk.mk (zu (g := gb201) (o := .cells #[.int .i64 t197, .int .i64 t198] 24 (0, 0)) (by (with_reducible repeat (first | refine za ?_ _ | refine zf ?_ | refine ze ?_ _));exact BK201.out) hb);have n3_ := zk.mk (zaj (by repeat (first | (with_reducible first | exact HB.out | apply zq | apply zm | apply zo | refine zh ?_ GE199.out | refine zh ?_ GE200.out | refine zh ?_ GE201.out) | exact HB.out)) hb);clear BK199;clear BK200;clear BK201;clear HB;have BK199 := n0_;have BK200 := n1_;have BK201 := n2_;have HB := n3_;clear n0_ n1_ n2_ n3_;(try clear hb);(try clear hb2);(try clear hk);(try clear hi)) | ((with_reducible refine zbC (N := 8) rfl ?_);refine zbz ?hg (N := 8) ?hd (cs := #[.int .i64 0, .int .i64 0]) (t := 30) ?hr ?_;(case hd => rfl);(case hg => rfl);(case hr => first | (go_simp;done) | (go_simp;rfl));intro gb207 hg w228 hbox hb;have n0_ := zk.mk (zu (g := gb199) (o := .cells #[.int .i64 t193, .int .i64 t194] 24 (0, 0)) (by (with_reducible repeat (first | refine za ?_ _ | refine zf ?_ | refine ze ?_ _));exact BK199.out) hb);have n1_ := zk.mk (zu (g := gb200) (o := .cells #[.int .i64 t195, .int .i64 t196] 24 (0, 0)) (by (with_reducible repeat (first | refine za ?_ _ | refine zf ?_ | refine ze ?_ _));exact BK200.out) hb);have n2_ := zk.mk (zu (g := gb201) (o := .cells #[.int .i64 t197, .int .i64 t198] 24 (0, 0)) (by (with_reducible repeat (first | refine za ?_ _ | refine zf ?_ | refine ze ?_ _));exact BK201.out) hb);have n3_ := zk.mk (zaj (by repeat (first | (with_reducible first | exact HB.out | apply zq | apply zm | apply zo | refine zh ?_ GE199.out | refine zh ?_ GE200.out | refine zh ?_ GE201.out) | exact HB.out)) hb);have n4_ := zk.mk (hbox);have n5_ := zk.mk ((by rw [hg];exact (zas (by repeat (first | (with_reducible first | exact HB.out | apply zq | apply zm | apply zo | refine zh ?_ GE199.out | refine zh ?_ GE200.out | refine zh ?_ GE201.out) | exact HB.out))) : w.heap.size <= gb207));have n6_ := zk.mk ((by rw [hg];exact (zas (by repeat (first | (with_reducible first | exact HB.out | apply zq | apply zm | apply zo | refine zh ?_ GE199.out | refine zh ?_ GE200.out | refine zh ?_ GE201.out) | exact HB.out))) : w.heap.size <= gb207));have n7_ := zk.mk ((by rw [hg];exact Nat.ne_of_lt (zai (g := gb199) (o := .cells #[.int .i64 t193, .int .i64 t194] 24 (0, 0)) (by (with_reducible repeat (first | refine za ?_ _ | refine zf ?_ | refine ze ?_ _));exact BK199.out)) : gb199 ≠ gb207));have n8_ := zk.mk ((by rw [hg];exact Nat.ne_of_gt (zai (g := gb199) (o := .cells #[.int .i64 t193, .int .i64 t194] 24 (0, 0)) (by (with_reducible repeat (first | refine za ?_ _ | refine zf ?_ | refine ze ?_ _));exact BK199.out)) : gb207 ≠ gb199));have n9_ := zk.mk ((by rw [hg];exact Nat.ne_of_lt (zai (g := gb200) (o := .cells #[.int .i64 t195, .int .i64 t196] 24 (0, 0)) (by (with_reducible repeat (first | refine za ?_ _ | refine zf ?_ | refine ze ?_ _));exact BK200.out)) : gb200 ≠ gb207));have n10_ := zk.mk ((by rw [hg];exact Nat.ne_of_gt (zai (g := gb200) (o := .cells #[.int .i64 t195, .int .i64 t196] 24 (0, 0)) (by (with_reducible repeat (first | refine za ?_ _ | refine zf ?_ | refine ze ?_ _));exact BK200.out)) : gb207 ≠ gb200));have n11_ := zk.mk ((by rw [hg];exact Nat.ne_of_lt (zai (g := gb201) (o := .cells #[.int .i64 t197, .int .i64 t198] 24 (0, 0)) (by (with_reducible repeat (first | refine za ?_ _ | refine zf ?_ | refine ze ?_ _));exact BK201.out)) : gb201 ≠ gb207));have n12_ := zk.mk ((by rw [hg];exact Nat.ne_of_gt (zai (g := gb201) (o := .cells #[.int .i64 t197, .int .i64 t198] 24 (0, 0)) (by (with_reducible repeat (first | refine za ?_ _ | refine zf ?_ | refine ze ?_ _));exact BK201.out)) : gb207 ≠ gb201));clear BK199;clear BK200;clear BK201;clear HB;have BK199 := n0_;have BK200 := n1_;have BK201 := n2_;have HB := n3_;have BK207 := n4_;have GW207 := n5_;have GE207 := n6_;have NB199_207 := n7_;have NB207_199 := n8_;have NB200_207 := n9_;have NB207_200 := n10_;have NB201_207 := n11_;have NB207_201 := n12_;clear n0_ n1_ n2_ n3_ n4_ n5_ n6_ n7_ n8_ n9_ n10_ n11_ n12_;clear hb hbox hg;have hnb229 := NB207_199.out;have hnc229 := NB199_207.out;have hnb230 := NB207_200.out;have hnc230 := NB200_207.out;have hnb231 := NB207_201.out;have hnc231 := NB201_207.out;have hcz232_0 : w228.cell? ⟨gb207, 0, none⟩ = some (.int .i64 0) := (zw BK207.out 0).trans rfl;have hcz232_1 : w228.cell? ⟨gb207, 1, none⟩ = some (.int .i64 0) := (zw BK207.out 1).trans rfl;have hfz232_0 := zt BK207.out 0;have hfz232_1 := zt BK207.out 1;have hcz233_0 : w228.cell? ⟨gb199, 0, none⟩ = some (.int .i64 t193) := (zw BK199.out 0).trans rfl;have hcz233_1 : w228.cell? ⟨gb199, 1, none⟩ = some (.int .i64 t194) := (zw BK199.out 1).trans rfl;have hfz233_0 := zt BK199.out 0;have hfz233_1 := zt BK199.out 1;have hcz234_0 : w228.cell? ⟨gb200, 0, none⟩ = some (.int .i64 t195) := (zw BK200.out 0).trans rfl;have hcz234_1 : w228.cell? ⟨gb200, 1, none⟩ = some (.int .i64 t196) := (zw BK200.out 1).trans rfl;have hfz234_0 := zt BK200.out 0;have hfz234_1 := zt BK200.out 1;have hcz235_0 : w228.cell? ⟨gb201, 0, none⟩ = some (.int .i64 t197) := (zw BK201.out 0).trans rfl;have hcz235_1 : w228.cell? ⟨gb201, 1, none⟩ = some (.int .i64 t198) := (zw BK201.out 1).trans rfl;have hfz235_0 := zt BK201.out 0;have hfz235_1 := zt BK201.out 1) | ((with_reducible refine zah (f := 15) rfl ?_);refine zbE (some 42) rfl rfl Tryz.func15 (by kernel_rfl) rfl #[.agg #[.int .i64 t193, .int .i64 t194], .agg #[.int .i64 t195, .int .i64 t196], .agg #[.int .i64 t197, .int .i64 t198]] rfl (by (try simp only [List.map_toArray, List.map_cons, List.map_nil]);first | done | rfl | (simp only [List.length_drop, List.length_take];rfl)) ?_;(with_reducible refine (zbM.calls t193 t194 t195 t196 t197 t198 t208 t209 t210 _ A6.out).mono ?_);rintro e w236 ⟨rfl, hb⟩;refine ⟨_, rfl, ?_⟩;have n0_ := zk.mk (zu (g := gb199) (o := .cells #[.int .i64 t193, .int .i64 t194] 24 (0, 0)) (by (with_reducible repeat (first | refine za ?_ _ | refine zf ?_ | refine ze ?_ _));refine zy ?_ NB199_207.out _;(with_reducible repeat (first | refine za ?_ _ | refine zf ?_ | refine ze ?_ _));refine zy ?_ NB199_207.out _;(with_reducible repeat (first | refine za ?_ _ | refine zf ?_ | refine ze ?_ _));exact BK199.out) hb);have n1_ := zk.mk (zu (g := gb200) (o := .cells #[.int .i64 t195, .int .i64 t196] 24 (0, 0)) (by (with_reducible repeat (first | refine za ?_ _ | refine zf ?_ | refine ze ?_ _));refine zy ?_ NB200_207.out _;(with_reducible repeat (first | refine za ?_ _ | refine zf ?_ | refine ze ?_ _));refine zy ?_ NB200_207.out _;(with_reducible repeat (first | refine za ?_ _ | refine zf ?_ | refine ze ?_ _));exact BK200.out) hb);have n2_ := zk.mk (zu (g := gb201) (o := .cells #[.int .i64 t197, .int .i64 t198] 24 (0, 0)) (by (with_reducible repeat (first | refine za ?_ _ | refine zf ?_ | refine ze ?_ _));refine zy ?_ NB201_207.out _;(with_reducible repeat (first | refine za ?_ _ | refine zf ?_ | refine ze ?_ _));refine zy ?_ NB201_207.out _;(with_reducible repeat (first | refine za ?_ _ | refine zf ?_ | refine ze ?_ _));exact BK201.out) hb);have n3_ := zk.mk (zu (g := gb207) (o := .cells #[.int .i64 t204, .int .i64 t205] 30 (0, 0)) (by (with_reducible repeat (first | refine za ?_ _ | refine zf ?_ | refine ze ?_ _));refine zao (cs := #[.int .i64 t204, .int .i64 0]) ?_ 1 _ rfl;(with_reducible repeat (first | refine za ?_ _ | refine zf ?_ | refine ze ?_ _));refine zao (cs := #[.int .i64 0, .int .i64 0]) ?_ 0 _ rfl;(with_reducible repeat (first | refine za ?_ _ | refine zf ?_ | refine ze ?_ _));exact BK207.out) hb);have n4_ := zk.mk (zaj (by repeat (first | (with_reducible first | exact HB.out | apply zq | apply zm | apply zo | refine zh ?_ GE199.out | refine zh ?_ GE200.out | refine zh ?_ GE201.out | refine zh ?_ GE207.out) | exact HB.out)) hb);clear BK199;clear BK200;clear BK201;clear BK207;clear HB;have BK199 := n0_;have BK200 := n1_;have BK201 := n2_;have BK207 := n3_;have HB := n4_;clear n0_ n1_ n2_ n3_ n4_;(try clear hb);(try clear hb2);(try clear hk);(try clear hi)) | ((with_reducible refine zbC (N := 10) rfl ?_);refine zbz ?hg (N := 10) ?hd (cs := #[.int .i64 0, .int .i64 0]) (t := 30) ?hr ?_;(case hd => rfl);(case hg => rfl);(case hr => first | (go_simp;done) | (go_simp;rfl));intro gb211 hg w237 hbox hb;have n0_ := zk.mk (zu (g := gb199) (o := .cells #[.int .i64 t193, .int .i64 t194] 24 (0, 0)) (by (with_reducible repeat (first | refine za ?_ _ | refine zf ?_ | refine ze ?_ _));exact BK199.out) hb);have n1_ := zk.mk (zu (g := gb200) (o := .cells #[.int .i64 t195, .int .i64 t196] 24 (0, 0)) (by (with_reducible repeat (first | refine za ?_ _ | refine zf ?_ | refine ze ?_ _));exact BK200.out) hb);have n2_ := zk.mk (zu (g := gb201) (o := .cells #[.int .i64 t197, .int .i64 t198] 24 (0, 0)) (by (with_reducible repeat (first | refine za ?_ _ | refine zf ?_ | refine ze ?_ _));exact BK201.out) hb);have n3_ := zk.mk (zu (g := gb207) (o := .cells #[.int .i64 t204, .int .i64 t205] 30 (0, 0)) (by (with_reducible repeat (first | refine za ?_ _ | refine zf ?_ | refine ze ?_ _));exact BK207.out) hb);have n4_ := zk.mk (zaj (by repeat (first | (with_reducible first | exact HB.out | apply zq | apply zm | apply zo | refine zh ?_ GE199.out | refine zh ?_ GE200.out | refine zh ?_ GE201.out | refine zh ?_ GE207.out) | exact HB.out)) hb);have n5_ := zk.mk (hbox);have n6_ := zk.mk ((by rw [hg];exact (zas (by repeat (first | (with_reducible first | exact HB.out | apply zq | apply zm | apply zo | refine zh ?_ GE199.out | refine zh ?_ GE200.out | refine zh ?_ GE201.out | refine zh ?_ GE207.out) | exact HB.out))) : w.heap.size <= gb211));have n7_ := zk.mk ((by rw [hg];exact (zas (by repeat (first | (with_reducible first | exact HB.out | apply zq | apply zm | apply zo | refine zh ?_ GE199.out | refine zh ?_ GE200.out | refine zh ?_ GE201.out | refine zh ?_ GE207.out) | exact HB.out))) : w.heap.size <= gb211));have n8_ := zk.mk ((by rw [hg];exact Nat.ne_of_lt (zai (g := gb199) (o := .cells #[.int .i64 t193, .int .i64 t194] 24 (0, 0)) (by (with_reducible repeat (first | refine za ?_ _ | refine zf ?_ | refine ze ?_ _));exact BK199.out)) : gb199 ≠ gb211));have n9_ := zk.mk ((by rw [hg];exact Nat.ne_of_gt (zai (g := gb199) (o := .cells #[.int .i64 t193, .int .i64 t194] 24 (0, 0)) (by (with_reducible repeat (first | refine za ?_ _ | refine zf ?_ | refine ze ?_ _));exact BK199.out)) : gb211 ≠ gb199));have n10_ := zk.mk ((by rw [hg];exact Nat.ne_of_lt (zai (g := gb200) (o := .cells #[.int .i64 t195, .int .i64 t196] 24 (0, 0)) (by (with_reducible repeat (first | refine za ?_ _ | refine zf ?_ | refine ze ?_ _));exact BK200.out)) : gb200 ≠ gb211));have n11_ := zk.mk ((by rw [hg];exact Nat.ne_of_gt (zai (g := gb200) (o := .cells #[.int .i64 t195, .int .i64 t196] 24 (0, 0)) (by (with_reducible repeat (first | refine za ?_ _ | refine zf ?_ | refine ze ?_ _));exact BK200.out)) : gb211 ≠ gb200));have n12_ := zk.mk ((by rw [hg];exact Nat.ne_of_lt (zai (g := gb201) (o := .cells #[.int .i64 t197, .int .i64 t198] 24 (0, 0)) (by (with_reducible repeat (first | refine za ?_ _ | refine zf ?_ | refine ze ?_ _));exact BK201.out)) : gb201 ≠ gb211));have n13_ := zk.mk ((by rw [hg];exact Nat.ne_of_gt (zai (g := gb201) (o := .cells #[.int .i64 t197, .int .i64 t198] 24 (0, 0)) (by (with_reducible repeat (first | refine za ?_ _ | refine zf ?_ | refine ze ?_ _));exact BK201.out)) : gb211 ≠ gb201));have n14_ := zk.mk ((by rw [hg];exact Nat.ne_of_lt (zai (g := gb207) (o := .cells #[.int .i64 t204, .int .i64 t205] 30 (0, 0)) (by (with_reducible repeat (first | refine za ?_ _ | refine zf ?_ | refine ze ?_ _));exact BK207.out)) : gb207 ≠ gb211));have n15_ := zk.mk ((by rw [hg];exact Nat.ne_of_gt (zai (g := gb207) (o := .cells #[.int .i64 t204, .int .i64 t205] 30 (0, 0)) (by (with_reducible repeat (first | refine za ?_ _ | refine zf ?_ | refine ze ?_ _));exact BK207.out)) : gb211 ≠ gb207));clear BK199;clear BK200;clear BK201;clear BK207;clear HB;have BK199 := n0_;have BK200 := n1_;have BK201 := n2_;have BK207 := n3_;have HB := n4_;have BK211 := n5_;have GW211 := n6_;have GE211 := n7_;have NB199_211 := n8_;have NB211_199 := n9_;have NB200_211 := n10_;have NB211_200 := n11_;have NB201_211 := n12_;have NB211_201 := n13_;have NB207_211 := n14_;have NB211_207 := n15_;clear n0_ n1_ n2_ n3_ n4_ n5_ n6_ n7_ n8_ n9_ n10_ n11_ n12_ n13_ n14_ n15_;clear hb hbox hg;have hnb238 := NB211_199.out;have hnc238 := NB199_211.out;have hnb239 := NB211_200.out;have hnc239 := NB200_211.out;have hnb240 := NB211_201.out;have hnc240 := NB201_211.out;have hnb241 := NB211_207.out;have hnc241 := NB207_211.out;have hcz242_0 : w237.cell? ⟨gb211, 0, none⟩ = some (.int .i64 0) := (zw BK211.out 0).trans rfl;have hcz242_1 : w237.cell? ⟨gb211, 1, none⟩ = some (.int .i64 0) := (zw BK211.out 1).trans rfl;have hfz242_0 := zt BK211.out 0;have hfz242_1 := zt BK211.out 1) | ((with_reducible refine zah (f := 16) rfl ?_);refine zbE (some 45) rfl rfl Tryz.func16 (by kernel_rfl) rfl #[.int .i64 0] rfl (by (try simp only [List.map_toArray, List.map_cons, List.map_nil]);first | done | rfl | (simp only [List.length_drop, List.length_take];rfl)) ?_;(with_reducible refine (zbV.calls 0 t212 t213 _ A7.out).mono ?_);rintro e w243 ⟨rfl, hb⟩;refine ⟨_, rfl, ?_⟩;have n0_ := zk.mk (zu (g := gb199) (o := .cells #[.int .i64 t193, .int .i64 t194] 24 (0, 0)) (by (with_reducible repeat (first | refine za ?_ _ | refine zf ?_ | refine ze ?_ _));refine zy ?_ NB199_211.out _;(with_reducible repeat (first | refine za ?_ _ | refine zf ?_ | refine ze ?_ _));refine zy ?_ NB199_211.out _;(with_reducible repeat (first | refine za ?_ _ | refine zf ?_ | refine ze ?_ _));exact BK199.out) hb);have n1_ := zk.mk (zu (g := gb200) (o := .cells #[.int .i64 t195, .int .i64 t196] 24 (0, 0)) (by (with_reducible repeat (first | refine za ?_ _ | refine zf ?_ | refine ze ?_ _));refine zy ?_ NB200_211.out _;(with_reducible repeat (first | refine za ?_ _ | refine zf ?_ | refine ze ?_ _));refine zy ?_ NB200_211.out _;(with_reducible repeat (first | refine za ?_ _ | refine zf ?_ | refine ze ?_ _));exact BK200.out) hb);have n2_ := zk.mk (zu (g := gb201) (o := .cells #[.int .i64 t197, .int .i64 t198] 24 (0, 0)) (by (with_reducible repeat (first | refine za ?_ _ | refine zf ?_ | refine ze ?_ _));refine zy ?_ NB201_211.out _;(with_reducible repeat (first | refine za ?_ _ | refine zf ?_ | refine ze ?_ _));refine zy ?_ NB201_211.out _;(with_reducible repeat (first | refine za ?_ _ | refine zf ?_ | refine ze ?_ _));exact BK201.out) hb);have n3_ := zk.mk (zu (g := gb207) (o := .cells #[.int .i64 t204, .int .i64 t205] 30 (0, 0)) (by (with_reducible repeat (first | refine za ?_ _ | refine zf ?_ | refine ze ?_ _));refine zy ?_ NB207_211.out _;(with_reducible repeat (first | refine za ?_ _ | refine zf ?_ | refine ze ?_ _));refine zy ?_ NB207_211.out _;(with_reducible repeat (first | refine za ?_ _ | refine zf ?_ | refine ze ?_ _));exact BK207.out) hb);have n4_ := zk.mk (zu (g := gb211) (o := .cells #[.int .i64 t208, .int .i64 t209] 30 (0, 0)) (by (with_reducible repeat (first | refine za ?_ _ | refine zf ?_ | refine ze ?_ _));refine zao (cs := #[.int .i64 t208, .int .i64 0]) ?_ 1 _ rfl;(with_reducible repeat (first | refine za ?_ _ | refine zf ?_ | refine ze ?_ _));refine zao (cs := #[.int .i64 0, .int .i64 0]) ?_ 0 _ rfl;(with_reducible repeat (first | refine za ?_ _ | refine zf ?_ | refine ze ?_ _));exact BK211.out) hb);have n5_ := zk.mk (zaj (by repeat (first | (with_reducible first | exact HB.out | apply zq | apply zm | apply zo | refine zh ?_ GE199.out | refine zh ?_ GE200.out | refine zh ?_ GE201.out | refine zh ?_ GE207.out | refine zh ?_ GE211.out) | exact HB.out)) hb);clear BK199;clear BK200;clear BK201;clear BK207;clear BK211;clear HB;have BK199 := n0_;have BK200 := n1_;have BK201 := n2_;have BK207 := n3_;have BK211 := n4_;have HB := n5_;clear n0_ n1_ n2_ n3_ n4_ n5_;(try clear hb);(try clear hb2);(try clear hk);(try clear hi)) | ((with_reducible refine zbC (N := 12) rfl ?_);refine zbz ?hg (N := 12) ?hd (cs := #[.int .i64 0, .int .i64 0]) (t := 30) ?hr ?_;(case hd => rfl);(case hg => rfl);(case hr => first | (go_simp;done) | (go_simp;rfl));intro gb214 hg w244 hbox hb;have n0_ := zk.mk (zu (g := gb199) (o := .cells #[.int .i64 t193, .int .i64 t194] 24 (0, 0)) (by (with_reducible repeat (first | refine za ?_ _ | refine zf ?_ | refine ze ?_ _));exact BK199.out) hb);have n1_ := zk.mk (zu (g := gb200) (o := .cells #[.int .i64 t195, .int .i64 t196] 24 (0, 0)) (by (with_reducible repeat (first | refine za ?_ _ | refine zf ?_ | refine ze ?_ _));exact BK200.out) hb);have n2_ := zk.mk (zu (g := gb201) (o := .cells #[.int .i64 t197, .int .i64 t198] 24 (0, 0)) (by (with_reducible repeat (first | refine za ?_ _ | refine zf ?_ | refine ze ?_ _));exact BK201.out) hb);have n3_ := zk.mk (zu (g := gb207) (o := .cells #[.int .i64 t204, .int .i64 t205] 30 (0, 0)) (by (with_reducible repeat (first | refine za ?_ _ | refine zf ?_ | refine ze ?_ _));exact BK207.out) hb);have n4_ := zk.mk (zu (g := gb211) (o := .cells #[.int .i64 t208, .int .i64 t209] 30 (0, 0)) (by (with_reducible repeat (first | refine za ?_ _ | refine zf ?_ | refine ze ?_ _));exact BK211.out) hb);have n5_ := zk.mk (zaj (by repeat (first | (with_reducible first | exact HB.out | apply zq | apply zm | apply zo | refine zh ?_ GE199.out | refine zh ?_ GE200.out | refine zh ?_ GE201.out | refine zh ?_ GE207.out | refine zh ?_ GE211.out) | exact HB.out)) hb);have n6_ := zk.mk (hbox);have n7_ := zk.mk ((by rw [hg];exact (zas (by repeat (first | (with_reducible first | exact HB.out | apply zq | apply zm | apply zo | refine zh ?_ GE199.out | refine zh ?_ GE200.out | refine zh ?_ GE201.out | refine zh ?_ GE207.out | refine zh ?_ GE211.out) | exact HB.out))) : w.heap.size <= gb214));have n8_ := zk.mk ((by rw [hg];exact (zas (by repeat (first | (with_reducible first | exact HB.out | apply zq | apply zm | apply zo | refine zh ?_ GE199.out | refine zh ?_ GE200.out | refine zh ?_ GE201.out | refine zh ?_ GE207.out | refine zh ?_ GE211.out) | exact HB.out))) : w.heap.size <= gb214));have n9_ := zk.mk ((by rw [hg];exact Nat.ne_of_lt (zai (g := gb199) (o := .cells #[.int .i64 t193, .int .i64 t194] 24 (0, 0)) (by (with_reducible repeat (first | refine za ?_ _ | refine zf ?_ | refine ze ?_ _));exact BK199.out)) : gb199 ≠ gb214));have n10_ := zk.mk ((by rw [hg];exact Nat.ne_of_gt (zai (g := gb199) (o := .cells #[.int .i64 t193, .int .i64 t194] 24 (0, 0)) (by (with_reducible repeat (first | refine za ?_ _ | refine zf ?_ | refine ze ?_ _));exact BK199.out)) : gb214 ≠ gb199));have n11_ := zk.mk ((by rw [hg];exact Nat.ne_of_lt (zai (g := gb200) (o := .cells #[.int .i64 t195, .int .i64 t196] 24 (0, 0)) (by (with_reducible repeat (first | refine za ?_ _ | refine zf ?_ | refine ze ?_ _));exact BK200.out)) : gb200 ≠ gb214));have n12_ := zk.mk ((by rw [hg];exact Nat.ne_of_gt (zai (g := gb200) (o := .cells #[.int .i64 t195, .int .i64 t196] 24 (0, 0)) (by (with_reducible repeat (first | refine za ?_ _ | refine zf ?_ | refine ze ?_ _));exact BK200.out)) : gb214 ≠ gb200));have n13_ := zk.mk ((by rw [hg];exact Nat.ne_of_lt (zai (g := gb201) (o := .cells #[.int .i64 t197, .int .i64 t198] 24 (0, 0)) (by (with_reducible repeat (first | refine za ?_ _ | refine zf ?_ | refine ze ?_ _));exact BK201.out)) : gb201 ≠ gb214));have n14_ := zk.mk ((by rw [hg];exact Nat.ne_of_gt (zai (g := gb201) (o := .cells #[.int .i64 t197, .int .i64 t198] 24 (0, 0)) (by (with_reducible repeat (first | refine za ?_ _ | refine zf ?_ | refine ze ?_ _));exact BK201.out)) : gb214 ≠ gb201));have n15_ := zk.mk ((by rw [hg];exact Nat.ne_of_lt (zai (g := gb207) (o := .cells #[.int .i64 t204, .int .i64 t205] 30 (0, 0)) (by (with_reducible repeat (first | refine za ?_ _ | refine zf ?_ | refine ze ?_ _));exact BK207.out)) : gb207 ≠ gb214));have n16_ := zk.mk ((by rw [hg];exact Nat.ne_of_gt (zai (g := gb207) (o := .cells #[.int .i64 t204, .int .i64 t205] 30 (0, 0)) (by (with_reducible repeat (first | refine za ?_ _ | refine zf ?_ | refine ze ?_ _));exact BK207.out)) : gb214 ≠ gb207));have n17_ := zk.mk ((by rw [hg];exact Nat.ne_of_lt (zai (g := gb211) (o := .cells #[.int .i64 t208, .int .i64 t209] 30 (0, 0)) (by (with_reducible repeat (first | refine za ?_ _ | refine zf ?_ | refine ze ?_ _));exact BK211.out)) : gb211 ≠ gb214));have n18_ := zk.mk ((by rw [hg];exact Nat.ne_of_gt (zai (g := gb211) (o := .cells #[.int .i64 t208, .int .i64 t209] 30 (0, 0)) (by (with_reducible repeat (first | refine za ?_ _ | refine zf ?_ | refine ze ?_ _));exact BK211.out)) : gb214 ≠ gb211));clear BK199;clear BK200;clear BK201;clear BK207;clear BK211;clear HB;have BK199 := n0_;have BK200 := n1_;have BK201 := n2_;have BK207 := n3_;have BK211 := n4_;have HB := n5_;have BK214 := n6_;have GW214 := n7_;have GE214 := n8_;have NB199_214 := n9_;have NB214_199 := n10_;have NB200_214 := n11_;have NB214_200 := n12_;have NB201_214 := n13_;have NB214_201 := n14_;have NB207_214 := n15_;have NB214_207 := n16_;have NB211_214 := n17_;have NB214_211 := n18_;clear n0_ n1_ n2_ n3_ n4_ n5_ n6_ n7_ n8_ n9_ n10_ n11_ n12_ n13_ n14_ n15_ n16_ n17_ n18_;clear hb hbox hg;have hnb245 := NB214_199.out;have hnc245 := NB199_214.out;have hnb246 := NB214_200.out;have hnc246 := NB200_214.out;have hnb247 := NB214_201.out;have hnc247 := NB201_214.out;have hnb248 := NB214_207.out;have hnc248 := NB207_214.out;have hnb249 := NB214_211.out;have hnc249 := NB211_214.out;have hcz250_0 : w244.cell? ⟨gb214, 0, none⟩ = some (.int .i64 0) := (zw BK214.out 0).trans rfl;have hcz250_1 : w244.cell? ⟨gb214, 1, none⟩ = some (.int .i64 0) := (zw BK214.out 1).trans rfl;have hfz250_0 := zt BK214.out 0;have hfz250_1 := zt BK214.out 1))
      go_ret
      exact ⟨by first | rfl | (simp [zan, zam] <;> rfl) | (simp [*, zan, zam] <;> rfl), by repeat (first | (with_reducible first | exact HB.out | apply zq | apply zm | apply zo | refine zh ?_ GE199.out | refine zh ?_ GE200.out | refine zh ?_ GE201.out | refine zh ?_ GE207.out | refine zh ?_ GE211.out | refine zh ?_ GE214.out) | exact HB.out)⟩
def zD.Pure : Prop := ∀ (l0 : List Int), l0.length <= maxLen -> l0.length * 1 <= 140737488351232 -> (∀ x ∈ l0, (Lit.int .u8 x).wf = true) -> ∃ k, zD.f k l0 = some true
theorem zD.walk (P : zD.Pure) (a0 : Option Addr) (len0 cap0 : Nat) (z0 : List Int) (w : World) (w0 : (a0 = none /\ len0 = 0 /\ cap0 = 0 /\ z0 = []) \/ ∃ x, a0 = some x /\ len0 <= cap0 /\ cap0 <= maxLen /\ z0.length = cap0 /\ (∀ i, i < z0.length -> w.cell? (x.add i) = some (.int .u8 (z0.getD i 0))) /\ ∀ n ∈ z0, (Lit.int .u8 n).wf = true) (y0 : len0 * 1 <= 140737488351232) :
    Calls Tryz.prog 3 #[.slice a0 len0 cap0] w fun e w' => e = .returned (.bool true) /\ Below w.heap.size w w' := by
  obtain ⟨l0, rfl, hr0, hm0, hw0, hc0⟩ := ReadsInt.ofRowC w0
  obtain ⟨k, h⟩ := P l0 hm0 y0 hw0
  refine (zD.calls k _ _ l0 true w (Kd.C_of_reads (d := (0 : Int)) (h1 := fun _ => rfl) hr0) hc0 h).mono ?_
  rintro e w' ⟨rfl, hd⟩
  exact ⟨rfl, hd⟩
end Go.Proofs.YtfcjhkkpbnobhaaGreat.PFnSides
