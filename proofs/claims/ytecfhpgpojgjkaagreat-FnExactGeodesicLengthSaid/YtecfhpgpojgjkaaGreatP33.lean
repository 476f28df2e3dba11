/-
  Plain laws: geodesics: omega by steps, the azimuth: three laws.
-/
import Derived.Test.YtecfhpgpojgjkaaGreatP32
import Derived.Test.YtecfhpgpojgjkaaGreatWN
namespace Go.Proofs.YtecfhpgpojgjkaaGreat.Ev
open Go
set_option linter.unusedSimpArgs false
set_option linter.unusedVariables false

theorem some_bif {γ : Type} (c : Bool) (a b : γ) : (bif c then some a else some b) = some (bif c then a else b) := by cases c <;> rfl
noncomputable def omStep (f : Iv → Iv) : Nat → Iv → Iv
  | 0, x => x
  | n + 1, x => bif !(F_spec_l04Ok (f x)) then x else bif !((F_spec_MeetI x (f x)).b) then x else omStep f n (F_spec_MeetI x (f x)).a
theorem om_spec (h : GeoS) {p : I64} (hp : 1 ≤ p.val ∧ p.val ≤ 64) : (t_spec_l16S_omega h p).opt = some (omStep (fun x => (spA h x p).a) 4 (F_spec_l16S_start h)) := by
  simp only [t_spec_l16S_omega, Tr.opt, sp_G _ _ hp, sp_F _ _ hp, ctr, some_bif, omStep]
theorem om_impl (g : Geo) {p : I64} (hp : 1 ≤ p.val ∧ p.val ≤ 64) : (t_impl_geodesic_omega g p).opt = some (omStep (fun x => (imA g x p).a) 4 (F_impl_geodesic_start g)) := by
  simp only [t_impl_geodesic_omega, Tr.opt, im_G _ _ hp, im_F _ _ hp, ctr, some_bif, omStep, isw_eq, meet_eq]
noncomputable def omA (e : Ell) (p q : Point) (n : I64) : Iv := omStep (fun x => (spA (mkS e p q) x n).a) 4 (F_spec_l16S_start (mkS e p q))
theorem om_F_spec (e : Ell) (p q : Point) {n : I64} (hn : 1 ≤ n.val ∧ n.val ≤ 64) : F_spec_l16S_omega (mkS e p q) n = omA e p q n := Tr.opt_get (om_spec (mkS e p q) hn)
theorem om_G_spec (e : Ell) (p q : Point) {n : I64} (hn : 1 ≤ n.val ∧ n.val ≤ 64) : G_spec_l16S_omega (mkS e p q) n = true := by unfold G_spec_l16S_omega; rw [om_spec (mkS e p q) hn]; rfl
theorem om_F_impl (e : Ell) (p q : Point) {n : I64} (hn : 1 ≤ n.val ∧ n.val ≤ 64) : F_impl_geodesic_omega (mkG e p q) n = omA e p q n := by
  have h : F_impl_geodesic_omega (mkG e p q) n = _ := Tr.opt_get (om_impl (mkG e p q) hn)
  rw [h, start_eq (mkG e p q) (mkS e p q) rfl rfl]
  simp only [next_same e p q _ hn]
  rfl
theorem om_G_impl (e : Ell) (p q : Point) {n : I64} (hn : 1 ≤ n.val ∧ n.val ≤ 64) : G_impl_geodesic_omega (mkG e p q) n = true := by unfold G_impl_geodesic_omega; rw [om_impl (mkG e p q) hn]; rfl

/-! ### omega is bounded, or whole -/
theorem norm_meet {a b : Iv} (ha : Norm a) (hb : F_spec_l04Ok b = true) (h : (F_spec_MeetI a b).b = true) : Norm (F_spec_MeetI a b).a := by
  rcases ha with ha | ha
  · left
    have h1 := (okiff a).1 ha
    have h2 := (okiff b).1 hb
    simp only [F_spec_MeetI, t_spec_MeetI, Tr.get, ha, hb, Bool.not_true, cfl] at h ⊢
    have m1 := max_l a.lo b.lo
    have m2 := min_l a.hi b.hi
    by_cases hlt : (F_spec_l00Max a.lo b.lo).val > (F_spec_l00Min a.hi b.hi).val
    · simp only [hlt, decide_true, ctr] at h; cases h
    · simp only [hlt, decide_false, cfl]
      refine (okiff _).2 ?_
      simp only
      omega
  · left
    rw [ha] at h ⊢
    simp only [F_spec_MeetI, t_spec_MeetI, Tr.get, whole_no, hb, Bool.not_false, Bool.not_true, ctr, cfl] at h ⊢
theorem norm_omStep {f : Iv → Iv} : ∀ (n : Nat) (x : Iv), Norm x → Norm (omStep f n x)
  | 0, x, h => h
  | n + 1, x, h => by
    simp only [omStep]
    cases h1 : F_spec_l04Ok (f x)
    · simp only [Bool.not_false, ctr]; exact h
    cases h2 : (F_spec_MeetI x (f x)).b
    · simp only [Bool.not_false, Bool.not_true, ctr, cfl]; exact h
    simp only [Bool.not_true, cfl]
    exact norm_omStep n _ (norm_meet h h1 h2)
theorem norm_omA (e : Ell) (p q : Point) (n : I64) : Norm (omA e p q n) := by
  refine norm_omStep 4 _ ?_
  simp only [F_spec_l16S_start, t_spec_l16S_start, Tr.get]
  exact norm_hull _ _
theorem q2_val : (F_spec_l05Turn ⟨2, rfl⟩).lo.val = 13493037704 := by kernel_rfl
theorem short_G (x : Iv) : G_spec_l16Short x = true := by
  obtain ⟨g2, _⟩ := turn_in (k := ⟨2, rfl⟩) (by decide) (by decide)
  unfold G_spec_l16Short
  simp only [t_spec_l16Short, Tr.opt, g2, ctr]
  cases F_spec_l04Ok x <;> rfl
theorem short_eq {x : Iv} (h : Norm x) : decide (x.hi.val ≥ (F_impl_TurnI ⟨2, rfl⟩).lo.val) = !(F_spec_l16Short x) := by
  obtain ⟨g2, e2⟩ := turn_in (k := ⟨2, rfl⟩) (by decide) (by decide)
  simp only [F_spec_l16Short, t_spec_l16Short, Tr.get, turnI_eq, e2, g2, q2_val, ctr]
  rcases h with h | h
  · simp only [h, ctr]
    by_cases hl : x.hi.val < 13493037704
    · simp [hl]
    · simp [hl]; omega
  · rw [h, whole_no]
    simp only [cfl]
    decide +kernel
theorem ask_n (e : Ell) (p q : Point) (n : I64) : F_spec_l16Ask e p q n = bif F_spec_l12Ok e && (F_spec_l11Ok p && F_spec_l11Ok q) then (bif decide (1 ≤ n.val ∧ n.val ≤ 64) then ⟨0, rfl⟩ else ⟨2, rfl⟩) else ⟨1, rfl⟩ := by
  have h : F_spec_l00In n ⟨1, rfl⟩ ⟨64, rfl⟩ = decide (1 ≤ n.val ∧ n.val ≤ 64) := by rw [in_eq]
  simp only [F_spec_l16Ask, t_spec_l16Ask, Tr.get, h]
  cases F_spec_l12Ok e <;> cases F_spec_l11Ok p <;> cases F_spec_l11Ok q <;> cases decide (1 ≤ n.val ∧ n.val ≤ 64) <;> rfl

theorem omegaStep_ok (e : Ell) (p q : Point) (x : Iv) (n : I64) : ∃ r, (t_impl_OmegaStep e p q x n).opt = some r ∧ (t_spec_OmegaStep e p q x n).opt = some r := by
  simp only [t_impl_OmegaStep, t_spec_OmegaStep, Tr.opt, ell_eq, areV_eq, ask_n, within_eq]
  cases he : F_spec_l12Ok e
  · exact ⟨_, rfl, rfl⟩
  cases hp : F_spec_l11Ok p
  · exact ⟨_, rfl, rfl⟩
  cases hq : F_spec_l11Ok q
  · exact ⟨_, rfl, rfl⟩
  cases hn : decide (1 ≤ n.val ∧ n.val ≤ 64)
  · exact ⟨_, rfl, rfl⟩
  have hn' : 1 ≤ n.val ∧ n.val ≤ 64 := by simpa using hn
  rw [geo_make hp hq, make16 hp hq, im_G _ _ hn', sp_G _ _ hn', im_F _ _ hn', sp_F _ _ hn', next_same e p q x hn', known_F]
  exact ⟨_, rfl, rfl⟩
theorem omega_ok (e : Ell) (p q : Point) (n : I64) : ∃ r, (t_impl_GeodesicOmega e p q n).opt = some r ∧ (t_spec_GeodesicOmega e p q n).opt = some r := by
  simp only [t_impl_GeodesicOmega, t_spec_GeodesicOmega, Tr.opt, ell_eq, areV_eq, ask_n, within_eq]
  cases he : F_spec_l12Ok e
  · exact ⟨_, rfl, rfl⟩
  cases hp : F_spec_l11Ok p
  · exact ⟨_, rfl, rfl⟩
  cases hq : F_spec_l11Ok q
  · exact ⟨_, rfl, rfl⟩
  cases hn : decide (1 ≤ n.val ∧ n.val ≤ 64)
  · exact ⟨_, rfl, rfl⟩
  have hn' : 1 ≤ n.val ∧ n.val ≤ 64 := by simpa using hn
  rw [geo_make hp hq, make16 hp hq, om_G_impl _ _ _ hn', om_G_spec _ _ _ hn', om_F_impl _ _ _ hn', om_F_spec _ _ _ hn', known_F]
  exact ⟨_, rfl, rfl⟩
theorem azim_ok (e : Ell) (p q : Point) (n : I64) : ∃ r, (t_impl_GeodesicAzimuth e p q n).opt = some r ∧ (t_spec_GeodesicAzimuth e p q n).opt = some r := by
  simp only [t_impl_GeodesicAzimuth, t_spec_GeodesicAzimuth, Tr.opt, ell_eq, areV_eq, ask_n, within_eq]
  cases he : F_spec_l12Ok e
  · exact ⟨_, rfl, rfl⟩
  cases hp : F_spec_l11Ok p
  · exact ⟨_, rfl, rfl⟩
  cases hq : F_spec_l11Ok q
  · exact ⟨_, rfl, rfl⟩
  cases hn : decide (1 ≤ n.val ∧ n.val ≤ 64)
  · exact ⟨_, rfl, rfl⟩
  have hn' : 1 ≤ n.val ∧ n.val ≤ 64 := by simpa using hn
  rw [geo_make hp hq, make16 hp hq, om_G_impl _ _ _ hn', om_G_spec _ _ _ hn', om_F_impl _ _ _ hn', om_F_spec _ _ _ hn', short_G, short_eq (norm_omA e p q n)]
  simp only [latI_eq, lat_eq hp, lat_eq hq, wrap_eq, neg_eq, known_F, dirI_eq, mulI_F, sub_eq, cosI_eq, sinI_eq]
  cases F_spec_l16Short (omA e p q n)
  · exact ⟨_, rfl, rfl⟩
  have hd : (mkS e p q).d = F_spec_l11Wrap (.w .i64 (q.lon.val - p.lon.val)) := rfl
  rw [hd]
  cases decide ((F_spec_l11Wrap (Rng.w .i64 (q.lon.val - p.lon.val))).val < 0)
  · exact ⟨_, rfl, rfl⟩
  · exact ⟨_, rfl, rfl⟩
theorem law_FnExactOmegaStep (a0 : Ell) (a1 a2 : Point) (a3 : Iv) (a4 : I64) : Tb13.run B13 [enc a0, enc a1, enc a2, enc a3, enc a4] Bool = some true := by
  rw [r_laws_FnExactOmegaStep]
  obtain ⟨r, h1, h2⟩ := omegaStep_ok (F_laws_toEllipsoid a0) (F_laws_toPoint a1) (F_laws_toPoint a2) (F_laws_toInterval a3) a4
  have g1 : G_impl_OmegaStep (F_laws_toEllipsoid a0) (F_laws_toPoint a1) (F_laws_toPoint a2) (F_laws_toInterval a3) a4 = true := by unfold G_impl_OmegaStep; rw [h1]; rfl
  have g2 : G_spec_OmegaStep (F_laws_toEllipsoid a0) (F_laws_toPoint a1) (F_laws_toPoint a2) (F_laws_toInterval a3) a4 = true := by unfold G_spec_OmegaStep; rw [h2]; rfl
  have f1 : F_impl_OmegaStep (F_laws_toEllipsoid a0) (F_laws_toPoint a1) (F_laws_toPoint a2) (F_laws_toInterval a3) a4 = r := Tr.opt_get h1
  have f2 : F_spec_OmegaStep (F_laws_toEllipsoid a0) (F_laws_toPoint a1) (F_laws_toPoint a2) (F_laws_toInterval a3) a4 = r := Tr.opt_get h2
  simp [t_laws_FnExactOmegaStep, Tr.opt, g1, g2, f1, f2, eqI_refl]
theorem law_FnExactGeodesicOmega (a0 : Ell) (a1 a2 : Point) (a3 : I64) : Tb14.run B14 [enc a0, enc a1, enc a2, enc a3] Bool = some true := by
  rw [r_laws_FnExactGeodesicOmega]
  obtain ⟨r, h1, h2⟩ := omega_ok (F_laws_toEllipsoid a0) (F_laws_toPoint a1) (F_laws_toPoint a2) a3
  have g1 : G_impl_GeodesicOmega (F_laws_toEllipsoid a0) (F_laws_toPoint a1) (F_laws_toPoint a2) a3 = true := by unfold G_impl_GeodesicOmega; rw [h1]; rfl
  have g2 : G_spec_GeodesicOmega (F_laws_toEllipsoid a0) (F_laws_toPoint a1) (F_laws_toPoint a2) a3 = true := by unfold G_spec_GeodesicOmega; rw [h2]; rfl
  have f1 : F_impl_GeodesicOmega (F_laws_toEllipsoid a0) (F_laws_toPoint a1) (F_laws_toPoint a2) a3 = r := Tr.opt_get h1
  have f2 : F_spec_GeodesicOmega (F_laws_toEllipsoid a0) (F_laws_toPoint a1) (F_laws_toPoint a2) a3 = r := Tr.opt_get h2
  simp [t_laws_FnExactGeodesicOmega, Tr.opt, g1, g2, f1, f2, eqI_refl]
theorem law_FnExactGeodesicAzimuth (a0 : Ell) (a1 a2 : Point) (a3 : I64) : Tb15.run B15 [enc a0, enc a1, enc a2, enc a3] Bool = some true := by
  rw [r_laws_FnExactGeodesicAzimuth]
  obtain ⟨r, h1, h2⟩ := azim_ok (F_laws_toEllipsoid a0) (F_laws_toPoint a1) (F_laws_toPoint a2) a3
  have g1 : G_impl_GeodesicAzimuth (F_laws_toEllipsoid a0) (F_laws_toPoint a1) (F_laws_toPoint a2) a3 = true := by unfold G_impl_GeodesicAzimuth; rw [h1]; rfl
  have g2 : G_spec_GeodesicAzimuth (F_laws_toEllipsoid a0) (F_laws_toPoint a1) (F_laws_toPoint a2) a3 = true := by unfold G_spec_GeodesicAzimuth; rw [h2]; rfl
  have f1 : F_impl_GeodesicAzimuth (F_laws_toEllipsoid a0) (F_laws_toPoint a1) (F_laws_toPoint a2) a3 = r := Tr.opt_get h1
  have f2 : F_spec_GeodesicAzimuth (F_laws_toEllipsoid a0) (F_laws_toPoint a1) (F_laws_toPoint a2) a3 = r := Tr.opt_get h2
  simp [t_laws_FnExactGeodesicAzimuth, Tr.opt, g1, g2, f1, f2, eqI_refl]
end Go.Proofs.YtecfhpgpojgjkaaGreat.Ev
