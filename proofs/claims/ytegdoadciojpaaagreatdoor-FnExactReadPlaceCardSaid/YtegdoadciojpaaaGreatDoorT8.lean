/-
  Reading places: what the specification reads is the place whose text came in; the law.
-/
import Derived.Test.YtegdoadciojpaaaGreatDoorT7
import Derived.Test.YtegdoadciojpaaaGreatDoorX2
import Derived.Test.YtegdoadciojpaaaGreatDoorX3
namespace Go.Proofs.YtegdoadciojpaaaGreatDoor.Ev
open Go Go.RowKit Go.Proofs.YtegdoadciojpaaaGreatDoor.Rq Go.Proofs.YtegdoadciojpaaaGreatDoor.Rt
set_option maxRecDepth 100000
set_option linter.unusedVariables false
set_option linter.unusedSimpArgs false
theorem sp_free : ∀ (l : List UInt8), ∀ q ∈ Rp.sp l, (32 : UInt8) ∉ q
  | [], q, h => by simp [Rp.sp] at h; subst h; simp
  | c :: r, q, h => by
    have ih := sp_free r
    unfold Rp.sp at h
    split at h
    · simp only [List.mem_cons] at h
      rcases h with rfl | h
      · simp
      · exact ih q h
    · rename_i hc
      split at h
      · rename_i p ps e
        simp only [List.mem_cons] at h
        rcases h with rfl | h
        · have := ih p (by rw [e]; simp)
          intro k
          rw [List.mem_cons] at k
          rcases k with k | k
          · exact hc k.symm
          · exact this k
        · exact ih q (by rw [e]; simp [h])
      · simp only [List.mem_cons, List.not_mem_nil, or_false] at h
        subst h
        simp only [List.mem_cons, List.not_mem_nil, or_false]
        exact fun k => hc k.symm
theorem sp_plL (p : Place) (hp : F_impl_ValidPlace p = true) : Rp.sp (plL p) = [dgL p.pt.lat.val, dgL p.pt.lon.val, Lib.itoa p.h.val] := by
  have hv := (vp_iff p.pt).1 ((vl_iff p).1 hp).1
  unfold plL ptL
  rw [List.append_assoc, List.cons_append, Rp.sp_word _ _ (dgL_noblank _ (by omega) (by omega)), Rp.sp_word _ _ (dgL_noblank _ (by omega) (by omega)), Rp.sp_last _ (Rp.itoa_noblank _)]
def vP (a b : Int) : Bool := (decide (-900000000 ≤ a) && decide (a ≤ 900000000)) && (decide (-1799999999 ≤ b) && decide (b ≤ 1800000000))
def vH (h : Int) : Bool := decide (-20000000 ≤ h) && decide (h ≤ 20000000000)
theorem in_f (a b c : Int) : Pr.spec_l00In.f a b c = some (decide (b ≤ a) && decide (a ≤ c)) := by
  unfold Pr.spec_l00In.f
  by_cases h : b ≤ a <;> simp [h]
theorem ok_f (a b : Int) : Pr.spec_l11Ok.f a b = some (vP a b) := by
  unfold Pr.spec_l11Ok.f vP
  rw [in_f, in_f]
  simp only [Option.bind_some]
  cases (decide (-900000000 ≤ a) && decide (a ≤ 900000000)) <;> simp
theorem ok14_f (a b h : Int) : Pr.spec_l14Ok.f a b h = some (vP a b && vH h, a, b, h) := by
  unfold Pr.spec_l14Ok.f vH
  rw [ok_f, in_f]
  simp only [Option.bind_some]
  cases vP a b <;> simp
theorem vP_of {p : Point} : F_impl_ValidPoint p = vP p.lat.val p.lon.val := by
  rw [Bool.eq_iff_iff, vp_iff]
  simp only [vP, Bool.and_eq_true, decide_eq_true_eq]
  omega
theorem vH_of {p : Place} : F_impl_ValidPlace p = (vP p.pt.lat.val p.pt.lon.val && vH p.h.val) := by
  rw [Bool.eq_iff_iff, vl_iff, vP_of]
  simp only [vH, Bool.and_eq_true, decide_eq_true_eq]
/-- Two words. -/
theorem point_f {k : Nat} (hk : 60 ≤ k) {t a b : ByteArray} (ht : t.size ≤ 2000000) (hkt : t.size + 1 ≤ k) (e : wds t = [a, b]) {n1 n2 : Int} {b1 b2 : Bool} (h1 : Pr.spec_l11Read.f 60 a = some (n1, b1)) (h2 : Pr.spec_l11Read.f 60 b = some (n2, b2)) :
    Pr.spec_ReadPoint.f k t = some (bif b1 && (b2 && vP n1 n2) then (n1, n2, true) else (0, 0, false)) := by
  unfold Pr.spec_ReadPoint.f
  have hsp : Pr.spec_l01Split.f k t 32 = some [a, b] := by rw [← e]; exact mono_to (f := fun k => Pr.spec_l01Split.f k t 32) (fun k => Pr.spec_l01Split.mono t 32 k) hkt (split_f ht)
  have g1 : Pr.spec_l11Read.f k a = some (n1, b1) := mono_to (f := fun k => Pr.spec_l11Read.f k a) (fun k => Pr.spec_l11Read.mono a k) hk h1
  have g2 : Pr.spec_l11Read.f k b = some (n2, b2) := mono_to (f := fun k => Pr.spec_l11Read.f k b) (fun k => Pr.spec_l11Read.mono b k) hk h2
  rw [hsp, Option.bind_some]
  have r0 : ∀ d, Go.Proofs.YtegdoadciojpaaaGreatDoorW.PrintWords.rdOf d [a, b] 0 = a := fun _ => rfl
  have r1 : ∀ d, Go.Proofs.YtegdoadciojpaaaGreatDoorW.PrintWords.rdOf d [a, b] 1 = b := fun _ => rfl
  rw [if_pos (show (([a, b] : List ByteArray).length : Int) = 2 from rfl), if_pos (by show (0 : Int) < 2; omega), r0, g1, Option.bind_some, if_pos (by show (1 : Int) < 2; omega), r1, g2, Option.bind_some, ok_f, Option.bind_some]
  cases b1 <;> cases b2 <;> cases vP n1 n2 <;> rfl
/-- What the specification reads, of three words. -/
theorem spec3 (s a b c : ByteArray) (hs : s.size ≤ 1048576) (e : wds s = [a, b, c]) (w : World) : ∃ (r : T2 Place Bool), OkPl s r ∧ Calls Tryz.prog 4 #[.string s] w fun e w' => e = .returned (.tuple #[.agg #[.int .i64 r.a.pt.lat.val, .int .i64 r.a.pt.lon.val, .int .i64 r.a.h.val], .bool r.b]) ∧ Below w.heap.size w w' := by
  have hw : Rp.sp s.data.toList = [a.data.toList, b.data.toList, c.data.toList] := by rw [← wds_sp, e]; rfl
  have hj : s.data.toList = a.data.toList ++ 32 :: (b.data.toList ++ 32 :: c.data.toList) := by
    rw [← Rp.jn_sp s.data.toList, hw]; rfl
  have ha : (32 : UInt8) ∉ a.data.toList := sp_free s.data.toList _ (by rw [hw]; simp)
  have hb : (32 : UInt8) ∉ b.data.toList := sp_free s.data.toList _ (by rw [hw]; simp)
  have hlen : a.size + b.size + c.size + 2 = s.size := by
    have := congrArg List.length hj
    simp only [List.length_append, List.length_cons] at this
    have e1 : s.data.toList.length = s.size := rfl
    have e2 : a.data.toList.length = a.size := rfl
    have e3 : b.data.toList.length = b.size := rfl
    have e4 : c.data.toList.length = c.size := rfl
    omega
  obtain ⟨t, ht⟩ : ∃ t, a ++ ⟨#[32]⟩ ++ b = t := ⟨_, rfl⟩
  have htl : t.data.toList = a.data.toList ++ 32 :: b.data.toList := by rw [← ht]; simp
  have htz : t.size = a.size + 1 + b.size := by
    rw [show t.size = t.data.toList.length from rfl, htl, List.length_append, List.length_cons]
    have e2 : a.data.toList.length = a.size := rfl
    have e3 : b.data.toList.length = b.size := rfl
    omega
  have htw : wds t = [a, b] := map_inj (by rw [wds_sp, htl, Rp.sp_word _ _ ha, Rp.sp_last _ hb]; rfl)
  obtain ⟨n1, b1, f1, d1, y1, k1⟩ := read_f a (by omega)
  obtain ⟨n2, b2, f2, d2, y2, k2⟩ := read_f b (by omega)
  have hk : 60 ≤ s.size + 100 := by omega
  have hsp : Pr.spec_l01Split.f (s.size + 100) s 32 = some [a, b, c] := by rw [← e]; exact mono_to (f := fun k => Pr.spec_l01Split.f k s 32) (fun k => Pr.spec_l01Split.mono s 32 k) (show s.size + 1 ≤ s.size + 100 by omega) (split_f (by omega))
  have hpt := point_f hk (t := t) (by omega) (by omega) htw f1 f2
  have hnm : Pr.spec_ReadDecimal.f (s.size + 100) c = some (rdV c, rdB c) := by
    unfold Pr.spec_ReadDecimal.f
    rw [number_f hk c]; rfl
  have hbd := rdV_bd c
  -- the point
  obtain ⟨o1, ho1⟩ : ∃ o1, (b1 && (b2 && vP n1 n2)) = o1 := ⟨_, rfl⟩
  rw [ho1] at hpt
  have main : ∀ (p1 p2 : Int), (o1 = true → p1 = n1 ∧ p2 = n2) → Pr.spec_ReadPoint.f (s.size + 100) t = some (p1, p2, o1) → ∃ (r : T2 Place Bool), OkPl s r ∧ Calls Tryz.prog 4 #[.string s] w fun e w' => e = .returned (.tuple #[.agg #[.int .i64 r.a.pt.lat.val, .int .i64 r.a.pt.lon.val, .int .i64 r.a.h.val], .bool r.b]) ∧ Below w.heap.size w w' := by
    intro p1 p2 hp hf
    rw [← ht] at hf
    have hc := rplace3 (s.size + 100) s a b c hsp p1 p2 o1 hf (rdV c) (rdB c) hnm (vP p1 p2 && vH (rdV c)) (ok14_f p1 p2 (rdV c)) (by omega) w
    obtain ⟨ok, hok⟩ : ∃ ok, (o1 && (rdB c && (vP p1 p2 && vH (rdV c)))) = ok := ⟨_, rfl⟩
    rw [hok] at hc
    cases ok with
    | true =>
      have hok' := hok
      rw [Bool.and_eq_true, Bool.and_eq_true, Bool.and_eq_true] at hok'
      obtain ⟨z1, z2, z3, z4⟩ := hok'
      obtain ⟨rfl, rfl⟩ := hp z1
      have ho := ho1
      rw [z1, Bool.and_eq_true, Bool.and_eq_true] at ho
      have i1 : (Rng.w .i64 p1).val = p1 := wi (by omega) (by omega)
      have i2 : (Rng.w .i64 p2).val = p2 := wi (by omega) (by omega)
      have i3 : (Rng.w .i64 (rdV c)).val = rdV c := wi hbd.1 hbd.2
      refine ⟨⟨⟨⟨.w .i64 p1, .w .i64 p2⟩, .w .i64 (rdV c)⟩, true⟩, ⟨fun _ => ⟨?_, ?_⟩, (fun h => by cases h), fun p hpv ep => ⟨rfl, ?_⟩⟩, ?_⟩
      · show _ = (dgL (Rng.w .i64 p1).val ++ 32 :: dgL (Rng.w .i64 p2).val) ++ 32 :: Lib.itoa (Rng.w .i64 (rdV c)).val
        rw [i1, i2, i3, ← y1 ho.1, ← y2 ho.2.1, ← num_some z2, hj]
        simp
      · rw [vH_of]
        show (vP (Rng.w .i64 p1).val (Rng.w .i64 p2).val && vH (Rng.w .i64 (rdV c)).val) = true
        rw [i1, i2, i3, z3, z4]; rfl
      · have hv := (vp_iff p.pt).1 ((vl_iff p).1 hpv).1
        have h3 := sp_plL p hpv
        rw [← ep, hw] at h3
        simp only [List.cons.injEq, and_true] at h3
        obtain ⟨q1, q2, q3⟩ := h3
        have g1 := (k1 _ (by omega) (by omega) q1).1
        have g2 := (k2 _ (by omega) (by omega) q2).1
        have g3 := (num_of ((vl_iff p).1 hpv).2.1 ((vl_iff p).1 hpv).2.2 q3).1
        obtain ⟨⟨pa, pb⟩, ph⟩ := p
        have w1 : Rng.w .i64 p1 = pa := i64_ext (by rw [i1]; exact g1)
        have w2 : Rng.w .i64 p2 = pb := i64_ext (by rw [i2]; exact g2)
        have w3 : Rng.w .i64 (rdV c) = ph := i64_ext (by rw [i3]; exact g3)
        show (⟨⟨_, _⟩, _⟩ : Place) = _
        rw [w1, w2, w3]
      · show Calls _ _ _ _ fun e w' => e = .returned (.tuple #[.agg #[.int .i64 (Rng.w .i64 p1).val, .int .i64 (Rng.w .i64 p2).val, .int .i64 (Rng.w .i64 (rdV c)).val], .bool true]) ∧ _
        rw [i1, i2, i3]
        exact hc
    | false =>
      refine ⟨⟨pl0, false⟩, ⟨(fun h => by cases h), fun _ => rfl, fun p hpv ep => ?_⟩, hc⟩
      exfalso
      have hv := (vp_iff p.pt).1 ((vl_iff p).1 hpv).1
      have h3 := sp_plL p hpv
      rw [← ep, hw] at h3
      simp only [List.cons.injEq, and_true] at h3
      obtain ⟨q1, q2, q3⟩ := h3
      obtain ⟨g1, m1⟩ := k1 _ (by omega) (by omega) q1
      obtain ⟨g2, m2⟩ := k2 _ (by omega) (by omega) q2
      obtain ⟨g3, m3⟩ := num_of ((vl_iff p).1 hpv).2.1 ((vl_iff p).1 hpv).2.2 q3
      have hvv := hpv
      rw [vH_of, Bool.and_eq_true, ← g1, ← g2, ← g3] at hvv
      have ho : o1 = true := by rw [← ho1, m1, m2, hvv.1]; rfl
      obtain ⟨rfl, rfl⟩ := hp ho
      rw [ho, m3, hvv.1, hvv.2] at hok
      cases hok
  cases ho : o1 with
  | true => exact main n1 n2 (fun _ => ⟨rfl, rfl⟩) (by rw [hpt, ho]; rfl)
  | false => exact main 0 0 (fun h => by rw [ho] at h; cases h) (by rw [hpt, ho]; rfl)
theorem spec_calls (s : ByteArray) (hs : s.size ≤ 1048576) (w : World) : Calls Tryz.prog 4 #[.string s] w fun e w' => e = .returned (.tuple #[.agg #[.int .i64 (iF s).a.pt.lat.val, .int .i64 (iF s).a.pt.lon.val, .int .i64 (iF s).a.h.val], .bool (iF s).b]) ∧ Below w.heap.size w w' := by
  have hok := iF_ok s hs
  by_cases h3 : (wds s).length = 3
  · obtain ⟨a, b, c, e⟩ : ∃ a b c, wds s = [a, b, c] := by
      generalize wds s = L at *
      match L, h3 with
      | [a, b, c], _ => exact ⟨a, b, c, rfl⟩
    obtain ⟨r, hr, hc⟩ := spec3 s a b c hs e w
    rw [okPl_one hok hr]
    exact hc
  · have hr : OkPl s ⟨pl0, false⟩ := ⟨(fun h => by cases h), fun _ => rfl, fun p hpv ep => by
      have h4 := sp_plL p hpv
      rw [← ep, ← wds_sp] at h4
      have := congrArg List.length h4
      simp at this
      exact absurd this h3⟩
    rw [okPl_one hok hr]
    exact rplaceN (s.size + 1) s (wds s) (split_f (by omega)) h3 w
def gR (s : ByteArray) : Bool := decide (s.size ≤ 1048576)
noncomputable def E_impl_RP : Ent Tryz.prog := .of1 Tb5 B5 gR iF fun s h => r5_iF s (of_decide_eq_true h)
noncomputable def B4 : Bod Tryz.prog := ⟨4, Tryz.f4, Tryz.f4.body.getD .skip, Tryz.func4, by kernel_rfl, by kernel_rfl, Loops.no _ _⟩
noncomputable def E_spec_RP : Ent Tryz.prog where
  id := 4
  g := fun vs _ => match vs with
    | [.str s] => gR s
    | _ => false
  fn := fun vs _ => match vs with
    | [.str s] => some (enc (iF s))
    | _ => none
  ok := fun vs m v hg hf w0 ρ xs w hv hm => by
    split at hf <;> try (cases hf; done)
    rename_i s
    cases hf
    have hs : s.size ≤ 1048576 := by simpa [gR] using hg
    cases hv with
    | cons h1 t => cases t; cases h1
                   have ag : ∀ p : Place, VR ρ (enc p) (.agg #[.int .i64 p.pt.lat.val, .int .i64 p.pt.lon.val, .int .i64 p.h.val]) := fun p => .agg (.cons (.i64 _) (.cons (.i64 _) (.cons (.i64 _) .nil)))
                   refine does_calls B4 ((spec_calls s hs w).mono fun e w' he => ?_)
                   obtain ⟨rfl, hb⟩ := he
                   exact ⟨_, rfl, .tup (.cons (ag (iF s).a) (.cons (.bool _) .nil)), hb⟩
noncomputable def B3 : Bod Tryz.prog := ⟨3, Tryz.f3, Tryz.f3.body.getD .skip, Tryz.func3, by kernel_rfl, by kernel_rfl, Loops.no _ _⟩
noncomputable def Tb3 : Tb Tryz.prog := { T := [Y2, Y3, Y4, Y9, Y23, Y25], mix := mix, Es := [E_spec_RP, E_impl_RP, E_laws_eqPlace], Bs := [], d := 1 }
theorem r3 (s : ByteArray) : Tb3.run B3 [enc s] Bool = bif inB .i64 (s.size : Int) then (bif decide ((Rng.w .i64 (s.size : Int)).val > 1048576) then some true else (bif gR s then (bif gR s then (bif !(F_laws_eqPlace (iF s).a (iF s).a) then some false else (bif !((iF s).b == (iF s).b) then some false else some true)) else none) else none)) else none := by kernel_rfl
theorem law_FnExactReadPlace (s : ByteArray) (hs : s.size ≤ maxLen) : Tb3.run B3 [enc s] Bool = some true := by
  have h1 : inB .i64 (s.size : Int) = true := by
    simp only [inB, Bool.and_eq_true, decide_eq_true_eq]
    simp only [maxLen] at hs
    omega
  rw [r3, h1]
  simp only [cond_true]
  rw [wi (n := (s.size : Int)) (by omega) (by simp only [maxLen] at hs; omega)]
  by_cases hb : (s.size : Int) > 1048576
  · have : decide ((s.size : Int) > 1048576) = true := by simpa using hb
    rw [this]; rfl
  · have h2 : decide ((s.size : Int) > 1048576) = false := by simpa using hb
    have h3 : gR s = true := by simp only [gR, decide_eq_true_eq]; omega
    have h4 : ∀ p : Place, F_laws_eqPlace p p = true := fun p => by simp [F_laws_eqPlace, t_laws_eqPlace, F_laws_eqPoint, t_laws_eqPoint, Tr.get]
    rw [h2, h3, h4]
    simp
end Go.Proofs.YtegdoadciojpaaaGreatDoor.Ev
