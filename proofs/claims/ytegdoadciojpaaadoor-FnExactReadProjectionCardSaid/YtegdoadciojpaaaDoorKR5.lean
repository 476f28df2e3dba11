/-
  ReadProjection on both sides is one function.
-/
import Derived.Test.YtegdoadciojpaaaDoorKR4
namespace Go.Proofs.YtegdoadciojpaaaDoor.Ev
open Go Go.RowKit
set_option maxRecDepth 100000
set_option linter.unusedVariables false
set_option linter.unusedSimpArgs false
noncomputable def E_SplitN : Ent Tryd.prog where
  id := 37
  g := fun _ _ => false
  fn := fun _ _ => none
  ok := fun vs m v hg hf => by cases hf
  nsl := fun vs _ => match vs with
    | [.str s, .str p] => some (decide (s.size ≤ 2000000) && eqStr p ⟨#[32]⟩, (wds s).map V.str)
    | _ => none
  nslok := fun vs m cs h w0 ρ xs w hv hm => by
    split at h <;> try (cases h; done)
    rename_i s p
    simp only [Option.some.injEq, Prod.mk.injEq] at h
    obtain ⟨hg, rfl⟩ := h
    simp only [Bool.and_eq_true, decide_eq_true_eq] at hg
    obtain ⟨hs, hp⟩ := hg
    obtain rfl : p = ⟨#[32]⟩ := eqStr_to hp
    refine ⟨(wds s).map Value.string, 9, vrs_str ρ _, ?_⟩
    cases hv with
    | cons h1 t => cases t with
      | cons h2 t => cases t; cases h1; cases h2
                     refine does_calls B37 ((split_calls s w hm.invw hs).mono fun e w' he => ?_)
                     obtain ⟨rfl, rfl⟩ := he
                     exact ⟨_, rfl, by rw [List.length_map], rfl⟩
noncomputable def Tb19n : Tb Tryd.prog := { T := [Y2, Y3, Y9, Y29, Y46, Y62], mix := mix, Es := [E_SplitN, E_ReadDecimal, E_impl_ProjectionNamed, E_impl_ValidProjection, E_projectionText], Bs := [], d := 1 }
theorem r19n (s : ByteArray) : ∃ X, Tb19n.run B19 [enc s] (T2 Proj Bool) = bif (decide (s.size ≤ 2000000) && eqStr ⟨#[32]⟩ ⟨#[32]⟩) then (bif inB .i64 (((wds s).map V.str).length : Int) then (bif ((Rng.w .i64 (((wds s).map V.str).length : Int)).val != 5) then some ⟨p0, false⟩ else X) else none) else none := ⟨_, rfl⟩
theorem kind_name (s : ByteArray) : (kindOf s).val = 0 ∨ eqStr (nmK (kindOf s)) s = true := by
  unfold kindOf
  cases h1 : eqStr (names.getD 1 ByteArray.empty) s
  · skip
    cases h2 : eqStr (names.getD 2 ByteArray.empty) s
    · skip
      cases h3 : eqStr (names.getD 3 ByteArray.empty) s
      · skip
        cases h4 : eqStr (names.getD 4 ByteArray.empty) s
        · skip
          cases h5 : eqStr (names.getD 5 ByteArray.empty) s
          · skip
            cases h6 : eqStr (names.getD 6 ByteArray.empty) s
            · skip
              cases h7 : eqStr (names.getD 7 ByteArray.empty) s
              · skip
                cases h8 : eqStr (names.getD 8 ByteArray.empty) s
                · skip
                  cases h9 : eqStr (names.getD 9 ByteArray.empty) s
                  · skip
                    cases h10 : eqStr (names.getD 10 ByteArray.empty) s
                    · skip
                      cases h11 : eqStr (names.getD 11 ByteArray.empty) s
                      · skip
                        cases h12 : eqStr (names.getD 12 ByteArray.empty) s
                        · skip
                          cases h13 : eqStr (names.getD 13 ByteArray.empty) s
                          · skip
                            cases h14 : eqStr (names.getD 14 ByteArray.empty) s
                            · skip
                              cases h15 : eqStr (names.getD 15 ByteArray.empty) s
                              · skip
                                cases h16 : eqStr (names.getD 16 ByteArray.empty) s
                                · skip
                                  exact .inl rfl
                                · exact .inr h16
                              · exact .inr h15
                            · exact .inr h14
                          · exact .inr h13
                        · exact .inr h12
                      · exact .inr h11
                    · exact .inr h10
                  · exact .inr h9
                · exact .inr h8
              · exact .inr h7
            · exact .inr h6
          · exact .inr h5
        · exact .inr h4
      · exact .inr h3
    · exact .inr h2
  · exact .inr h1
open Rp Rq in
theorem dd_len {m : Nat} (h : m < 1000000000000000000) : (Lib.decDigits m).length ≤ 18 := by
  by_cases hz : m = 0
  · subst hz; rw [dd_small (by decide)]; decide
  · rw [← Pp.dI_dec m hz, List.length_map]
    exact Pp.dI_len 18 m (by have : (10 : Nat) ^ 18 = 1000000000000000000 := by decide
                             omega)
open Rp Rq in
theorem un_itoa (v : Int) : un (Lib.itoa v) = Lib.decDigits v.natAbs := by
  by_cases hn : v < 0
  · rw [itoa_ng hn, un_neg]
  · rw [itoa_nn (by omega), show v.toNat = v.natAbs by omega]
    have hne := dd_ne v.natAbs
    have hd := @dd_digit v.natAbs
    generalize Lib.decDigits v.natAbs = L at *
    cases L with
    | nil => exact absurd rfl hne
    | cons c r =>
      refine un_pos (fun e => ?_) r
      have := hd (c := c) (by simp)
      subst e
      exact absurd this (by decide)
open Rp Rq in
theorem num_small {l : List UInt8} {v : Int} (h : -1800000000 ≤ v ∧ v ≤ 1800000000) (e : Lib.itoa v = l) : numL l = some v :=
  numL_of (by omega) (by omega) e (by rw [← e, un_itoa]; exact dd_len (by omega))
theorem ok_bd {p : Proj} (h : F_spec_l17Ok p = true) : (-1800000000 ≤ p.lat0.val ∧ p.lat0.val ≤ 1800000000) ∧ (-1800000000 ≤ p.lon0.val ∧ p.lon0.val ≤ 1800000000) ∧ (-1800000000 ≤ p.lat1.val ∧ p.lat1.val ≤ 1800000000) ∧ (-1800000000 ≤ p.lat2.val ∧ p.lat2.val ≤ 1800000000) := by
  simp only [F_spec_l17Ok, t_spec_l17Ok, F_spec_l11Ok, t_spec_l11Ok, F_spec_l17Standard, t_spec_l17Standard, Tr.get, in_eq] at h
  by_cases h1 : -900000000 ≤ p.lat0.val ∧ p.lat0.val ≤ 900000000
  case neg => simp [h1] at h
  by_cases h2 : -1799999999 ≤ p.lon0.val ∧ p.lon0.val ≤ 1800000000
  case neg => simp [h1, h2] at h
  by_cases h3 : -890000000 ≤ p.lat1.val ∧ p.lat1.val ≤ 890000000
  case neg => simp [h1, h2, h3] at h
  by_cases h4 : -890000000 ≤ p.lat2.val ∧ p.lat2.val ≤ 890000000
  case neg => simp [h1, h2, h3, h4] at h
  omega
theorem app_data (a b : ByteArray) : (a ++ b).data.toList = a.data.toList ++ b.data.toList := by
  rw [ByteArray.data_append]; simp
/-- The pieces of a projection's text. -/
def pieces (p : Proj) : List (List UInt8) := [(nmK p.kind).data.toList, Lib.itoa p.lat0.val, Lib.itoa p.lon0.val, Lib.itoa p.lat1.val, Lib.itoa p.lat2.val]
theorem tx_data (p : Proj) : (txP p).data.toList = Rp.jn (pieces p) := by
  have e1 : sp1.data.toList = [32] := rfl
  have ed : ∀ n : I64, (decB n).data.toList = Lib.itoa n.val := fun n => by unfold decB; simp
  unfold txP s8 s7 s6 s5 s4 s3 s2 s1
  simp only [app_data, e1, ed]
  simp [pieces, Rp.jn, List.append_assoc]
theorem names_noblank : ∀ n ∈ names, (32 : UInt8) ∉ n.data.toList := by decide +kernel
theorem nmK_noblank (k : I64) : (32 : UInt8) ∉ (nmK k).data.toList := by
  unfold nmK
  rcases Nat.lt_or_ge k.val.toNat names.length with h | h
  · have e : names.getD k.val.toNat ByteArray.empty = names[k.val.toNat] := by simp [List.getD, h]
    rw [e]; exact names_noblank _ (List.getElem_mem h)
  · have e : names.getD k.val.toNat ByteArray.empty = ByteArray.empty := by simp [List.getD, List.getElem?_eq_none h]
    rw [e]; simp
theorem pieces_noblank (p : Proj) : ∀ q ∈ pieces p, (32 : UInt8) ∉ q := by
  intro q hq
  simp only [pieces, List.mem_cons, List.not_mem_nil, or_false] at hq
  rcases hq with rfl | rfl | rfl | rfl | rfl
  · exact nmK_noblank _
  all_goals exact Rp.itoa_noblank _
theorem sp_pieces (p : Proj) : Rp.sp (Rp.jn (pieces p)) = pieces p := by
  have h := pieces_noblank p
  unfold pieces at h ⊢
  exact Rp.sp_jn (nmK p.kind).data.toList _ h
theorem rd_true {s : ByteArray} (h : rdB s = true) : s.data.toList = Lib.itoa (rdV s) := by
  cases e : numL s.data.toList with
  | none => rw [(Rq.rd_none e).2] at h; cases h
  | some v => rw [(Rq.rd_some e).1]; exact (Rq.numL_some e).1
theorem text_iff {s : ByteArray} (h5 : (wds s).length = 5) (ok : F_spec_l17Ok (pjW s) = true) : eqStr (txP (pjW s)) s = (rdB (wd s 1) && (rdB (wd s 2) && (rdB (wd s 3) && rdB (wd s 4)))) := by
  have b := ok_bd ok
  have v1 : (pjW s).lat0.val = rdV (wd s 1) := rdI_val _
  have v2 : (pjW s).lon0.val = rdV (wd s 2) := rdI_val _
  have v3 : (pjW s).lat1.val = rdV (wd s 3) := rdI_val _
  have v4 : (pjW s).lat2.val = rdV (wd s 4) := rdI_val _
  have hw : Rp.sp s.data.toList = [(wd s 0).data.toList, (wd s 1).data.toList, (wd s 2).data.toList, (wd s 3).data.toList, (wd s 4).data.toList] := by
    rw [← Rq.wds_sp, wds_five h5]; rfl
  rw [Bool.eq_iff_iff]
  constructor
  · intro h
    have e := eqStr_to h
    have hp : Rp.sp s.data.toList = pieces (pjW s) := by
      have e' : s.data.toList = Rp.jn (pieces (pjW s)) := by rw [← tx_data, e]
      rw [e', sp_pieces]
    rw [hw] at hp
    simp only [pieces, List.cons.injEq, and_true] at hp
    obtain ⟨_, p1, p2, p3, p4⟩ := hp
    rw [v1] at p1 b; rw [v2] at p2 b; rw [v3] at p3 b; rw [v4] at p4 b
    have r1 := (Rq.rd_some (num_small b.1 p1.symm)).2
    have r2 := (Rq.rd_some (num_small b.2.1 p2.symm)).2
    have r3 := (Rq.rd_some (num_small b.2.2.1 p3.symm)).2
    have r4 := (Rq.rd_some (num_small b.2.2.2 p4.symm)).2
    simp [r1, r2, r3, r4]
  · intro h
    simp only [Bool.and_eq_true] at h
    obtain ⟨r1, r2, r3, r4⟩ := h
    have hk := kind_ok (p := pjW s) (by rw [proj_eq]; exact ok)
    have hn : eqStr (nmK (pjW s).kind) (wd s 0) = true := by
      rcases kind_name (wd s 0) with z | z
      · exfalso
        have : (pjW s).kind.val = 0 := z
        simp [kG, this] at hk
      · exact z
    have e0 : (nmK (pjW s).kind).data.toList = (wd s 0).data.toList := by rw [eqStr_to hn]
    unfold eqStr
    rw [tx_data, beq_iff_eq]
    have hp : pieces (pjW s) = Rp.sp s.data.toList := by
      rw [hw]
      simp only [pieces, e0, v1, v2, v3, v4, ← rd_true r1, ← rd_true r2, ← rd_true r3, ← rd_true r4]
    rw [hp, Rp.jn_sp]
/-- What ReadProjection gives. -/
noncomputable def RP (s : ByteArray) : T2 Proj Bool := bif Rq.okS s then ⟨pjW s, true⟩ else ⟨p0, false⟩
theorem sp_len : ∀ (l : List UInt8), ∀ q ∈ Rp.sp l, q.length ≤ l.length
  | [], q, h => by simp [Rp.sp] at h; subst h; simp
  | c :: r, q, h => by
    have ih := sp_len r
    unfold Rp.sp at h
    split at h
    · simp only [List.mem_cons] at h
      rcases h with rfl | h
      · simp
      · have := ih q h; simp; omega
    · split at h
      · rename_i p ps e
        simp only [List.mem_cons] at h
        rcases h with rfl | h
        · have := ih p (by rw [e]; simp); simp; omega
        · have := ih q (by rw [e]; simp [h]); simp; omega
      · simp only [List.mem_cons, List.not_mem_nil, or_false] at h
        subst h; simp
theorem wd_size {s : ByteArray} (h5 : (wds s).length = 5) (hs : s.size ≤ 2000000) (i : Nat) (hi : i < 5) : gSz s i = true := by
  have hm : wd s i ∈ wds s := by
    unfold wd
    have h : i < (wds s).length := by omega
    have e : (wds s).getD i ByteArray.empty = (wds s)[i] := by simp [List.getD, h]
    rw [e]; exact List.getElem_mem h
  have := sp_len s.data.toList (wd s i).data.toList (by rw [← Rq.wds_sp]; exact List.mem_map_of_mem hm)
  have e1 : s.data.toList.length = s.size := rfl
  have e2 : (wd s i).data.toList.length = (wd s i).size := rfl
  simp only [gSz, decide_eq_true_eq]; omega
theorem impl_five {s : ByteArray} (hs : s.size ≤ 2000000) (h5 : (wds s).length = 5) : Tb19.run B19 [enc s] (T2 Proj Bool) = some (RP s) := by
  have g : gFive s ⟨#[32]⟩ = true := by simp [gFive, hs, h5, eqStr_refl]
  rw [r19, g, wd_size h5 hs 1 (by decide), wd_size h5 hs 2 (by decide), wd_size h5 hs 3 (by decide), wd_size h5 hs 4 (by decide)]
  simp only [cond_true, proj_eq]
  unfold RP Rq.okS
  have d5 : decide ((wds s).length = 5) = true := by simpa using h5
  rw [d5]
  cases ok : F_spec_l17Ok (pjW s)
  · simp
  · rw [kind_ok (p := pjW s) (by rw [proj_eq]; exact ok), text_iff h5 ok]
    cases rdB (wd s 1) <;> cases rdB (wd s 2) <;> cases rdB (wd s 3) <;> cases rdB (wd s 4) <;> rfl
theorem impl_not {s : ByteArray} (hs : s.size ≤ 2000000) (h5 : ¬ (wds s).length = 5) : Tb19n.run B19 [enc s] (T2 Proj Bool) = some (RP s) := by
  obtain ⟨X, e⟩ := r19n s
  have hl : (wds s).length ≤ 2000001 := by
    rw [wds_len]
    have := Lib.countB_le ⟨#[32]⟩ (by decide) s.size s (Nat.le_refl _)
    omega
  have hi : inB .i64 (((wds s).map V.str).length : Int) = true := by
    rw [List.length_map]
    simp only [inB, Bool.and_eq_true, decide_eq_true_eq]; omega
  have hc : ((Rng.w .i64 (((wds s).map V.str).length : Int)).val != 5) = true := by
    rw [List.length_map, wi (by omega) (by omega)]
    simp; omega
  have hg : (decide (s.size ≤ 2000000) && eqStr ⟨#[32]⟩ ⟨#[32]⟩) = true := by simp [hs, eqStr_refl]
  rw [e, hg, hi, hc]
  unfold RP Rq.okS
  have d5 : decide ((wds s).length = 5) = false := by simpa using h5
  rw [d5]
  rfl
noncomputable def E_impl_RP : Ent Tryd.prog where
  id := 19
  g := fun vs _ => match vs with
    | [.str s] => decide (s.size ≤ 2000000)
    | _ => false
  fn := fun vs _ => match vs with
    | [.str s] => some (enc (RP s))
    | _ => none
  ok := fun vs m v hg hf w0 ρ xs w hv hm => by
    split at hf <;> try (cases hf; done)
    rename_i s
    cases hf
    have hs : s.size ≤ 2000000 := by simpa using hg
    by_cases h5 : (wds s).length = 5
    · exact Tb.run_does (impl_five hs h5) hv (by simp [V.pfs, V.pf]) hm.invw
    · exact Tb.run_does (impl_not hs h5) hv (by simp [V.pfs, V.pf]) hm.invw
noncomputable def B18 : Bod Tryd.prog := ⟨18, Tryd.f18, Tryd.f18.body.getD .skip, Tryd.func18, by kernel_rfl, by kernel_rfl, Loops.no _ _⟩
noncomputable def E_spec_RP : Ent Tryd.prog where
  id := 18
  g := fun vs _ => match vs with
    | [.str s] => decide (s.size ≤ 2000000)
    | _ => false
  fn := fun vs _ => match vs with
    | [.str s] => some (enc (RP s))
    | _ => none
  ok := fun vs m v hg hf w0 ρ xs w hv hm => by
    split at hf <;> try (cases hf; done)
    rename_i s
    cases hf
    have hs : s.size ≤ 2000000 := by simpa using hg
    cases hv with
    | cons h1 t => cases t; cases h1
                   have hf := Rq.rp_f hs
                   have ag : ∀ p : Proj, VR ρ (enc p) (.agg #[.int .i64 p.kind.val, .int .i64 p.lat0.val, .int .i64 p.lon0.val, .int .i64 p.lat1.val, .int .i64 p.lat2.val]) := fun p => .agg (.cons (.i64 _) (.cons (.i64 _) (.cons (.i64 _) (.cons (.i64 _) (.cons (.i64 _) .nil)))))
                   unfold RP
                   cases ok : Rq.okS s
                   · rw [ok] at hf
                     refine does_calls B18 ((PFnExactReadProjection.spec_ReadProjection.calls _ s _ _ _ _ _ _ w hf).mono fun e w' he => ?_)
                     obtain ⟨rfl, hb⟩ := he
                     exact ⟨_, rfl, .tup (.cons (ag p0) (.cons (.bool _) .nil)), hb⟩
                   · rw [ok] at hf
                     refine does_calls B18 ((PFnExactReadProjection.spec_ReadProjection.calls _ s _ _ _ _ _ _ w hf).mono fun e w' he => ?_)
                     obtain ⟨rfl, hb⟩ := he
                     exact ⟨_, rfl, .tup (.cons (ag (pjW s)) (.cons (.bool _) .nil)), hb⟩
noncomputable def B7 : Bod Tryd.prog := ⟨7, Tryd.f7, Tryd.f7.body.getD .skip, Tryd.func7, by kernel_rfl, by kernel_rfl, Loops.no _ _⟩
noncomputable def Y4 : TyE Tryd.prog := ⟨4, 1, .bool, [.bool false], false, by kernel_rfl, by kernel_rfl, by kernel_rfl, by kernel_rfl, by kernel_rfl, by kernel_rfl⟩
noncomputable def Tb7 : Tb Tryd.prog := { T := [Y2, Y3, Y4, Y9, Y29], mix := mix, Es := [E_spec_RP, E_impl_RP, E_laws_eqProjection], Bs := [], d := 1 }
def gR (s : ByteArray) : Bool := decide (s.size ≤ 2000000)
theorem r7 (s : ByteArray) : Tb7.run B7 [enc s] Bool = bif inB .i64 (s.size : Int) then (bif decide ((Rng.w .i64 (s.size : Int)).val > 1048576) then some true else (bif gR s then (bif gR s then (bif !(F_laws_eqProjection (RP s).a (RP s).a) then some false else (bif !((RP s).b == (RP s).b) then some false else some true)) else none) else none)) else none := by kernel_rfl
theorem law_FnExactReadProjection (s : ByteArray) (hs : s.size ≤ maxLen) : Tb7.run B7 [enc s] Bool = some true := by
  have h1 : inB .i64 (s.size : Int) = true := by
    simp only [inB, Bool.and_eq_true, decide_eq_true_eq]
    simp only [maxLen] at hs
    omega
  rw [r7, h1]
  simp only [cond_true]
  rw [wi (n := (s.size : Int)) (by omega) (by simp only [maxLen] at hs; omega)]
  by_cases hb : (s.size : Int) > 1048576
  · have : decide ((s.size : Int) > 1048576) = true := by simpa using hb
    rw [this]; rfl
  · have h2 : decide ((s.size : Int) > 1048576) = false := by simpa using hb
    have h3 : gR s = true := by simp only [gR, decide_eq_true_eq]; omega
    have h4 : ∀ p : Proj, F_laws_eqProjection p p = true := fun p => by simp [F_laws_eqProjection, t_laws_eqProjection, Tr.get]
    rw [h2, h3, h4]
    simp
end Go.Proofs.YtegdoadciojpaaaDoor.Ev
