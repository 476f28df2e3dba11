/- The law FnSides gives true, whatever bytes come in. No conditions. (One of the texts of its proof, put together by a program of this session.) -/
import Derived.Test.YtfcjhkkpbnobhaaGreatZX4
import Derived.Test.YtfcjhkkpbnobhaaGreatZD
import Derived.Test.YtfcjhkkpbnobhaaGreatZB
set_option linter.unusedSimpArgs false
set_option linter.unusedVariables false
namespace Go.Proofs.YtfcjhkkpbnobhaaGreat.Pure
open Go Go.RowKit Go.Proofs.YtfcjhkkpbnobhaaGreat.PFnSides Go.Proofs.YtfcjhkkpbnobhaaGreat.DFnSides
open Ev (zbi Iv I64 rI rI_self rI_ok)
theorem pt_ok {a b : Int} (h : VP a b) : ∃ p : zbi, p.lat.val = a /\ p.lon.val = b /\ Ev.zab p = true := by
  obtain ⟨h1, h2, h3, h4⟩ := h
  obtain ⟨x, _, e1⟩ := rI_ok (n := a) (by omega) (by omega)
  obtain ⟨y, _, e2⟩ := rI_ok (n := b) (by omega) (by omega)
  refine ⟨⟨x, y⟩, e1, e2, ?_⟩
  have g1 : (-900000000 <= x.val /\ x.val <= 900000000) := by omega
  have g2 : (-1799999999 <= y.val /\ y.val <= 1800000000) := by omega
  simp only [Ev.zab, Ev.t_spec_l11Ok, Ev.Tr.get, Ev.ze5]
  simp [g1, g2]
theorem sideF (p q r : zbi) : zdi.f p.lat.val p.lon.val q.lat.val q.lon.val r.lat.val r.lon.val = some ((Ev.zbg p q r).a.val, (Ev.zbg p q r).b.val) := by
  unfold zdi.f;simp only [rI_self, Option.bind_some]
theorem trackF (p q r : zbi) : zba.f p.lat.val p.lon.val q.lat.val q.lon.val r.lat.val r.lon.val = some ((Ev.zaM p q r).a.lo.val, (Ev.zaM p q r).a.hi.val, (Ev.zaM p q r).b.val) := by
  unfold zba.f;simp only [rI_self, Option.bind_some]
theorem excessF (p q r : zbi) : zbM.f p.lat.val p.lon.val q.lat.val q.lon.val r.lat.val r.lon.val = some ((Ev.za0 p q r).a.lo.val, (Ev.za0 p q r).a.hi.val, (Ev.za0 p q r).b.val) := by
  unfold zbM.f;simp only [rI_self, Option.bind_some]
theorem rI_0 : rI 0 = some ⟨0, rfl⟩ := rI_self ⟨0, rfl⟩
theorem zeroF : zbV.f 0 = some ((Ev.zC ⟨0, rfl⟩).lo.val, (Ev.zC ⟨0, rfl⟩).hi.val) := by
  unfold zbV.f;simp only [rI_0, Option.bind_some]
theorem lessF (a b : Iv) : zaq.f a.lo.val a.hi.val b.lo.val b.hi.val = some (Ev.zbl a b).val := by
  unfold zaq.f;simp only [rI_self, Option.bind_some]
theorem hasF (a : Iv) : zfV.f a.lo.val a.hi.val 0 = some (Ev.zbT a ⟨0, rfl⟩) := by
  unfold zfV.f;simp only [rI_self, rI_0, Option.bind_some]
theorem j1_ok {p q : zbi} (h1 : Ev.zab p = true) (h2 : Ev.zab q = true) (k : Nat) : zD.j1 (k + 1) false p.lat.val p.lon.val q.lat.val q.lon.val = some true := by
  simp only [zD.j1, trackF, Option.bind_some]
  by_cases h : (Ev.zaM p q p).b.val = 0
  · simp only [h, if_true, hasF, Nc.track_end h1 h2 h, Option.bind_some];rfl
  · simp only [h, if_false];rfl
theorem j0_ok {p q r : zbi} (h1 : Ev.zab p = true) (h2 : Ev.zab q = true) (h3 : Ev.zab r = true) (k : Nat) :
    zD.j0 (k + 2) (Ev.zbg p q r).a.val (Ev.za0 p q r).b.val false p.lat.val p.lon.val q.lat.val q.lon.val (Ev.za0 p q r).a.lo.val (Ev.za0 p q r).a.hi.val (Ev.zC ⟨0, rfl⟩).lo.val (Ev.zC ⟨0, rfl⟩).hi.val = some true := by
  have j1 := j1_ok h1 h2 k
  have el := fun h => Nc.excess_law h1 h2 h3 h
  simp only [zD.j0, lessF, Option.bind_some]
  generalize Ev.za0 p q r = y at *
  generalize (Ev.zbg p q r).a.val = s at *
  by_cases c : y.b.val = 0
  · obtain ⟨e1, e2⟩ := el c
    simp only [c, if_true]
    by_cases s1 : s = 1
    · have z : ¬ s = 0 := by omega
      simp only [s1, if_true, e1 s1, if_false]
      simpa using j1
    · simp only [s1, if_false]
      by_cases s0 : s = 0
      · have := e2 s0
        have hb : ((Ev.zbl (Ev.zC ⟨0, rfl⟩) y.a).val == 1) = false := by simp [this]
        simp only [s0, if_true, hb]
        simpa using j1
      · simp only [s0, if_false]
        simpa using j1
  · simp only [c, if_false]
    simpa using j1
theorem FnSides : zD.Pure := by
  intro l0 _ _ hw
  refine ⟨20, ?_⟩
  unfold zD.f
  by_cases hl : (l0.length : Int) > 1048576
  · rw [if_pos hl]
  rw [if_neg hl]
  obtain ⟨a, b, c, d, e, f, e0, v1, v2, v3⟩ := points_ok (bytes_of (by omega) hw) (k := 20) (by decide)
  obtain ⟨p, rfl, rfl, hp⟩ := pt_ok v1
  obtain ⟨q, rfl, rfl, hq⟩ := pt_ok v2
  obtain ⟨r, rfl, rfl, hr⟩ := pt_ok v3
  have j0 := j0_ok hp hq hr 18
  have tl := fun h => Nc.track_law hp hq hr h
  rw [e0]
  simp only [Option.bind_some, sideF, trackF, excessF, zeroF, lessF, Nc.side_ok hp hq hr, if_true]
  generalize Ev.za0 p q r = y at *
  generalize Ev.zaM p q r = x at *
  generalize (Ev.zbg p q r).a.val = s at *
  by_cases c : x.b.val = 0
  · obtain ⟨e1, e2⟩ := tl c
    simp only [c, if_true]
    by_cases s1 : s = 1
    · have z : ¬ s = 0 := by omega
      simp only [s1, if_true, e1 s1, if_false]
      rw [s1] at j0
      simpa using j0
    · simp only [s1, if_false]
      by_cases s0 : s = 0
      · have := e2 s0
        have hb : ((Ev.zbl (Ev.zC ⟨0, rfl⟩) x.a).val == 1) = false := by simp [this]
        simp only [s0, if_true, hb]
        rw [s0] at j0
        exact j0
      · simp only [s0, if_false]
        exact j0
  · simp only [c, if_false]
    exact j0
end Go.Proofs.YtfcjhkkpbnobhaaGreat.Pure
