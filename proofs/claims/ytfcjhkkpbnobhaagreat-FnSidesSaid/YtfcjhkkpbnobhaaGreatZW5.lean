/- The law FnSides gives true, whatever bytes come in. No conditions. (One of the texts of its proof, put together by a program of this session.) -/
import Derived.Test.YtfcjhkkpbnobhaaGreatZW2
import Derived.Test.YtfcjhkkpbnobhaaGreatZPT
set_option linter.unusedSimpArgs false
set_option linter.unusedVariables false
namespace Go.Proofs.YtfcjhkkpbnobhaaGreat.Ev
open Go Go.RowKit
set_option maxRecDepth 100000
section
noncomputable def t_spec_CosI (a0 : Iv) : Tr (Iv) :=
  .leaf (zdk a0 ⟨1, rfl⟩)
noncomputable def zeF : Iv -> Iv := fun a0 => (t_spec_CosI a0).get
noncomputable def B118 : Bod Tryz.prog := ⟨118, Tryz.f118, Tryz.f118.body.getD .skip, Tryz.func118, by kernel_rfl, by kernel_rfl, zaU.no _ _⟩
noncomputable def Tb118 : Tb Tryz.prog := { T := [Y2, Y30], mix := mix, Es := [E_impl_circleHull], Bs := [], d := 1 }
noncomputable def t_impl_CosI (a0 : Iv) : Tr (Iv) :=
  .leaf (zaK a0 ⟨1, rfl⟩)
theorem r_impl_CosI (a0 : Iv) : Tb118.run B118 [enc a0] (Iv) = (t_impl_CosI a0).opt := by kernel_rfl
noncomputable def zfA : Iv -> Iv := fun a0 => (t_impl_CosI a0).get
theorem u_impl_CosI (a0 : Iv) : (t_impl_CosI a0).opt = some (zfA a0) := Tr.zaB (by kernel_rfl)
noncomputable def E_impl_CosI : Ent Tryz.prog := .of1 Tb118 B118 (fun _ => true) zfA fun a0 _ => (r_impl_CosI a0).trans (u_impl_CosI a0)
noncomputable def t_spec_SinI (a0 : Iv) : Tr (Iv) :=
  .leaf (zdk a0 ⟨0, rfl⟩)
noncomputable def zeD : Iv -> Iv := fun a0 => (t_spec_SinI a0).get
noncomputable def B115 : Bod Tryz.prog := ⟨115, Tryz.f115, Tryz.f115.body.getD .skip, Tryz.func115, by kernel_rfl, by kernel_rfl, zaU.no _ _⟩
noncomputable def Tb115 : Tb Tryz.prog := { T := [Y2, Y30], mix := mix, Es := [E_impl_circleHull], Bs := [], d := 1 }
noncomputable def t_impl_SinI (a0 : Iv) : Tr (Iv) :=
  .leaf (zaK a0 ⟨0, rfl⟩)
theorem r_impl_SinI (a0 : Iv) : Tb115.run B115 [enc a0] (Iv) = (t_impl_SinI a0).opt := by kernel_rfl
noncomputable def F_impl_SinI : Iv -> Iv := fun a0 => (t_impl_SinI a0).get
theorem u_impl_SinI (a0 : Iv) : (t_impl_SinI a0).opt = some (F_impl_SinI a0) := Tr.zaB (by kernel_rfl)
noncomputable def E_impl_SinI : Ent Tryz.prog := .of1 Tb115 B115 (fun _ => true) F_impl_SinI fun a0 _ => (r_impl_SinI a0).trans (u_impl_SinI a0)
noncomputable def t_spec_l07Fix (a0 : I64) : Tr (Bool) :=
  .br (decide ((-1152921504606846976) < a0.val)) (.leaf (decide (a0.val < 1152921504606846976))) (.leaf false)
noncomputable def zbr : I64 -> Bool := fun a0 => (t_spec_l07Fix a0).get
noncomputable def t_spec_l07Quarter : Tr (Iv) :=
  .br (zcL ⟨1, rfl⟩) (.br (zcL ⟨1, rfl⟩) (.leaf ⟨(Rng.w .i64 (0 - (zbA ⟨1, rfl⟩).hi.val)), (zbA ⟨1, rfl⟩).hi⟩) (.bad)) (.bad)
noncomputable def zbm : Iv := (t_spec_l07Quarter).get
noncomputable def t_spec_l07Halve (a0 : Iv) : Tr (Iv) :=
  .leaf (zL a0 (zaf (zC ⟨1, rfl⟩) (zcp (zaf (zC ⟨1, rfl⟩) (zbG a0)))))
noncomputable def zdB : Iv -> Iv := fun a0 => (t_spec_l07Halve a0).get
noncomputable def t_spec_ArcSeries (a0 : Iv) : Tr (Iv) :=
  .br (!(zaS a0 ⟨⟨(-1073741824), rfl⟩, ⟨1073741824, rfl⟩⟩)) (.leaf zaV) (let c3 := zbG a0;.leaf (zaf (z8 a0 (zaa (zaY ⟨1, rfl⟩ ⟨1, rfl⟩) (z8 c3 (zaa (zaY ⟨1, rfl⟩ ⟨3, rfl⟩) (z8 c3 (zaa (zaY ⟨1, rfl⟩ ⟨5, rfl⟩) (z8 c3 (zaa (zaY ⟨1, rfl⟩ ⟨7, rfl⟩) (z8 c3 (zaa (zaY ⟨1, rfl⟩ ⟨9, rfl⟩) (z8 c3 (zaa (zaY ⟨1, rfl⟩ ⟨11, rfl⟩) (z8 c3 (zaa (zaY ⟨1, rfl⟩ ⟨13, rfl⟩) (z8 c3 (zaa (zaY ⟨1, rfl⟩ ⟨15, rfl⟩) (z8 c3 (zaa (zaY ⟨1, rfl⟩ ⟨17, rfl⟩) (z8 c3 (zaa (zaY ⟨1, rfl⟩ ⟨19, rfl⟩) (z8 c3 (zaY ⟨1, rfl⟩ ⟨21, rfl⟩)))))))))))))))))))))) za2))
noncomputable def zd4 : Iv -> Iv := fun a0 => (t_spec_ArcSeries a0).get
noncomputable def t_spec_DoubleI (a0 : Iv) : Tr (Iv) :=
  .br (!(zn a0)) (.leaf zz) (.leaf (zay (Rng.w .i64 (2 * a0.lo.val)) (Rng.w .i64 (2 * a0.hi.val))))
noncomputable def zcm : Iv -> Iv := fun a0 => (t_spec_DoubleI a0).get
noncomputable def t_spec_l07Core (a0 : Iv) : Tr (Iv) :=
  .leaf (zcm (zcm (zd4 (zdB (zdB a0)))))
noncomputable def zck : Iv -> Iv := fun a0 => (t_spec_l07Core a0).get
noncomputable def zes (a0 : I64) : Tr (Iv) :=
  .br (!(zbr a0)) (.leaf zbm) (.br (decide (a0.val < 0)) (.bad) (.br (decide (a0.val > 4294967296)) (.leaf (zaa (zW ⟨1, rfl⟩) (zck (zL (zC ⟨1, rfl⟩) (zA a0))))) (.leaf (zck (zA a0)))))
noncomputable def zcW : I64 -> Iv := fun a0 => (zes a0).get
noncomputable def zeA : I64 -> Bool := fun a0 => (zes a0).opt.isSome
noncomputable def zfP (a0 : I64) : Tr (Iv) :=
  .br (!(zbr a0)) (.leaf zbm) (.br (decide (a0.val < 0)) (let c3 := (Rng.w .i64 (0 - a0.val));.br (zeA c3) (.leaf (zbb (zcW c3))) (.bad)) (.br (decide (a0.val > 4294967296)) (.leaf (zaa (zW ⟨1, rfl⟩) (zck (zL (zC ⟨1, rfl⟩) (zA a0))))) (.leaf (zck (zA a0)))))
noncomputable def zcG : I64 -> Iv := fun a0 => (zfP a0).get
noncomputable def B255 : Bod Tryz.prog := ⟨255, Tryz.f255, Tryz.f255.body.getD .skip, Tryz.func255, by kernel_rfl, by kernel_rfl, zaU.no _ _⟩
noncomputable def Tb255 : Tb Tryz.prog := { T := [], mix := mix, Es := [], Bs := [], d := 1 }
noncomputable def t_impl_isOpen (a0 : I64) : Tr (Bool) :=
  .br (decide ((-1152921504606846976) < a0.val)) (.leaf (decide (a0.val < 1152921504606846976))) (.leaf false)
theorem r_impl_isOpen (a0 : I64) : Tb255.run B255 [enc a0] (Bool) = (t_impl_isOpen a0).opt := by kernel_rfl
noncomputable def zdR : I64 -> Bool := fun a0 => (t_impl_isOpen a0).get
theorem u_impl_isOpen (a0 : I64) : (t_impl_isOpen a0).opt = some (zdR a0) := Tr.zaB (by kernel_rfl)
noncomputable def E_impl_isOpen : Ent Tryz.prog := .of1 Tb255 B255 (fun _ => true) zdR fun a0 _ => (r_impl_isOpen a0).trans (u_impl_isOpen a0)
noncomputable def B296 : Bod Tryz.prog := ⟨296, Tryz.f296, Tryz.f296.body.getD .skip, Tryz.func296, by kernel_rfl, by kernel_rfl, zaU.no _ _⟩
noncomputable def Tb296 : Tb Tryz.prog := { T := [Y2, Y30], mix := mix, Es := [ze0], Bs := [], d := 1 }
noncomputable def zeK : Tr (Iv) :=
  .leaf ⟨(Rng.w .i64 (0 - (za4 ⟨1, rfl⟩).hi.val)), (za4 ⟨1, rfl⟩).hi⟩
theorem r_impl_halfCircle : Tb296.run B296 [] (Iv) = (zeK).opt := by kernel_rfl
noncomputable def zbX : Iv := (zeK).get
theorem u_impl_halfCircle : (zeK).opt = some (zbX) := Tr.zaB (by kernel_rfl)
noncomputable def E_impl_halfCircle : Ent Tryz.prog := .of0 Tb296 B296 zbX (r_impl_halfCircle.trans u_impl_halfCircle)
noncomputable def B354 : Bod Tryz.prog := ⟨354, Tryz.f354, Tryz.f354.body.getD .skip, Tryz.func354, by kernel_rfl, by kernel_rfl, zaU.no _ _⟩
noncomputable def Tb354 : Tb Tryz.prog := { T := [Y2, Y30], mix := mix, Es := [zcP, zdT, ET_impl_SqrtI, E_impl_DivI, ET_impl_SqrI], Bs := [], d := 1 }
noncomputable def t_impl_halved (a0 : Iv) : Tr (Iv) :=
  .leaf (zbj a0 (zbo (zac ⟨1, rfl⟩) (F_impl_SqrtI (zbo (zac ⟨1, rfl⟩) (zfz a0)))))
theorem r_impl_halved (a0 : Iv) : Tb354.run B354 [enc a0] (Iv) = (t_impl_halved a0).opt := by kernel_rfl
noncomputable def zeX : Iv -> Iv := fun a0 => (t_impl_halved a0).get
theorem u_impl_halved (a0 : Iv) : (t_impl_halved a0).opt = some (zeX a0) := Tr.zaB (by kernel_rfl)
noncomputable def E_impl_halved : Ent Tryz.prog := .of1 Tb354 B354 (fun _ => true) zeX fun a0 _ => (r_impl_halved a0).trans (u_impl_halved a0)
noncomputable def B353 : Bod Tryz.prog := ⟨353, Tryz.f353, Tryz.f353.body.getD .skip, Tryz.func353, by kernel_rfl, by kernel_rfl, zaU.no _ _⟩
noncomputable def Tb353 : Tb Tryz.prog := { T := [Y2, Y30], mix := mix, Es := [zdT, zeH, zfB, zaI, ET_impl_Quotient, ET_impl_SqrI, E_impl_InsideI, E_impl_tiny], Bs := [], d := 1 }
noncomputable def zfq (a0 : Iv) : Tr (Iv) :=
  .br (!(zdo a0 ⟨⟨(-1073741824), rfl⟩, ⟨1073741824, rfl⟩⟩)) (.leaf zQ) (let c3 := zfz a0;.leaf (zbo (zav a0 (zaD (zbc ⟨1, rfl⟩ ⟨1, rfl⟩) (zav c3 (zaD (zbc ⟨1, rfl⟩ ⟨3, rfl⟩) (zav c3 (zaD (zbc ⟨1, rfl⟩ ⟨5, rfl⟩) (zav c3 (zaD (zbc ⟨1, rfl⟩ ⟨7, rfl⟩) (zav c3 (zaD (zbc ⟨1, rfl⟩ ⟨9, rfl⟩) (zav c3 (zaD (zbc ⟨1, rfl⟩ ⟨11, rfl⟩) (zav c3 (zaD (zbc ⟨1, rfl⟩ ⟨13, rfl⟩) (zav c3 (zaD (zbc ⟨1, rfl⟩ ⟨15, rfl⟩) (zav c3 (zaD (zbc ⟨1, rfl⟩ ⟨17, rfl⟩) (zav c3 (zaD (zbc ⟨1, rfl⟩ ⟨19, rfl⟩) (zav c3 (zbc ⟨1, rfl⟩ ⟨21, rfl⟩)))))))))))))))))))))) F_impl_tiny))
theorem r_impl_ArcSeries (a0 : Iv) : Tb353.run B353 [enc a0] (Iv) = (zfq a0).opt := by kernel_rfl
noncomputable def zd7 : Iv -> Iv := fun a0 => (zfq a0).get
theorem u_impl_ArcSeries (a0 : Iv) : (zfq a0).opt = some (zd7 a0) := Tr.zaB (by kernel_rfl)
noncomputable def E_impl_ArcSeries : Ent Tryz.prog := .of1 Tb353 B353 (fun _ => true) zd7 fun a0 _ => (r_impl_ArcSeries a0).trans (u_impl_ArcSeries a0)
noncomputable def B337 : Bod Tryz.prog := ⟨337, Tryz.f337, Tryz.f337.body.getD .skip, Tryz.func337, by kernel_rfl, by kernel_rfl, zaU.no _ _⟩
noncomputable def Tb337 : Tb Tryz.prog := { T := [Y2, Y30], mix := mix, Es := [zdT], Bs := [], d := 1 }
noncomputable def t_impl_DoubleI (a0 : Iv) : Tr (Iv) :=
  .leaf (zbo a0 a0)
theorem r_impl_DoubleI (a0 : Iv) : Tb337.run B337 [enc a0] (Iv) = (t_impl_DoubleI a0).opt := by kernel_rfl
noncomputable def zed : Iv -> Iv := fun a0 => (t_impl_DoubleI a0).get
theorem u_impl_DoubleI (a0 : Iv) : (t_impl_DoubleI a0).opt = some (zed a0) := Tr.zaB (by kernel_rfl)
noncomputable def E_impl_DoubleI : Ent Tryz.prog := .of1 Tb337 B337 (fun _ => true) zed fun a0 _ => (r_impl_DoubleI a0).trans (u_impl_DoubleI a0)
noncomputable def B334 : Bod Tryz.prog := ⟨334, Tryz.f334, Tryz.f334.body.getD .skip, Tryz.func334, by kernel_rfl, by kernel_rfl, zaU.no _ _⟩
noncomputable def Tb334 : Tb Tryz.prog := { T := [Y2, Y30], mix := mix, Es := [E_impl_DoubleI, E_impl_ArcSeries, E_impl_halved], Bs := [], d := 1 }
noncomputable def zfR (a0 : Iv) : Tr (Iv) :=
  .leaf (zed (zed (zd7 (zeX (zeX a0)))))
theorem r_impl_fourfold (a0 : Iv) : Tb334.run B334 [enc a0] (Iv) = (zfR a0).opt := by kernel_rfl
noncomputable def zcq : Iv -> Iv := fun a0 => (zfR a0).get
theorem u_impl_fourfold (a0 : Iv) : (zfR a0).opt = some (zcq a0) := Tr.zaB (by kernel_rfl)
noncomputable def E_impl_fourfold : Ent Tryz.prog := .of1 Tb334 B334 (fun _ => true) zcq fun a0 _ => (r_impl_fourfold a0).trans (u_impl_fourfold a0)
noncomputable def B297 : Bod Tryz.prog := ⟨297, Tryz.f297, Tryz.f297.body.getD .skip, Tryz.func297, by kernel_rfl, by kernel_rfl, zaU.no _ _⟩
noncomputable def Tb297_p : Tb Tryz.prog := { T := [Y2, Y30], mix := mix, Es := [zcP, zfB, E_impl_DivI, E_impl_at, ze0, E_impl_isOpen, E_impl_halfCircle, E_impl_fourfold], Bs := [], d := 1 }
noncomputable def zew (a0 : I64) : Tr (Iv) :=
  .br (!(zdR a0)) (.leaf zbX) (.br (decide (a0.val < 0)) (.bad) (.br (decide (a0.val > 4294967296)) (.leaf (zaD (za4 ⟨1, rfl⟩) (zcq (zbj (zac ⟨1, rfl⟩) (zbZ a0))))) (.leaf (zcq (zbZ a0)))))
theorem r_impl_AtanAt_p (a0 : I64) : Tb297_p.run B297 [enc a0] (Iv) = (zew a0).opt := by kernel_rfl
noncomputable def F_impl_AtanAt_p : I64 -> Iv := fun a0 => (zew a0).get
noncomputable def G_impl_AtanAt_p : I64 -> Bool := fun a0 => (zew a0).opt.isSome
noncomputable def E_impl_AtanAt_p : Ent Tryz.prog := .of1 Tb297_p B297 G_impl_AtanAt_p F_impl_AtanAt_p fun a0 h => (r_impl_AtanAt_p a0).trans (Tr.get_some h)
noncomputable def Tb297 : Tb Tryz.prog := { T := [Y2, Y30], mix := mix, Es := [zcP, zfB, E_impl_DivI, E_impl_NegI, E_impl_at, ze0, E_impl_isOpen, E_impl_halfCircle, E_impl_AtanAt_p, E_impl_fourfold], Bs := [], d := 1 }
noncomputable def zfU (a0 : I64) : Tr (Iv) :=
  .br (!(zdR a0)) (.leaf zbX) (.br (decide (a0.val < 0)) (let c3 := (Rng.w .i64 (0 - a0.val));.br (G_impl_AtanAt_p c3) (.leaf (zdn (F_impl_AtanAt_p c3))) (.bad)) (.br (decide (a0.val > 4294967296)) (.leaf (zaD (za4 ⟨1, rfl⟩) (zcq (zbj (zac ⟨1, rfl⟩) (zbZ a0))))) (.leaf (zcq (zbZ a0)))))
theorem r_impl_AtanAt (a0 : I64) : Tb297.run B297 [enc a0] (Iv) = (zfU a0).opt := by kernel_rfl
noncomputable def zdS : I64 -> Iv := fun a0 => (zfU a0).get
noncomputable def Y40 : TyE Tryz.prog := ⟨40, 6, (.struct [(0, 30, 2), (2, 30, 2), (4, 30, 2)]), [.i64 ⟨0, rfl⟩, .i64 ⟨0, rfl⟩, .i64 ⟨0, rfl⟩, .i64 ⟨0, rfl⟩, .i64 ⟨0, rfl⟩, .i64 ⟨0, rfl⟩], false, by kernel_rfl, by kernel_rfl, by kernel_rfl, by kernel_rfl, by kernel_rfl, by kernel_rfl⟩
end
end Go.Proofs.YtfcjhkkpbnobhaaGreat.Ev
namespace Go.Proofs.YtfcjhkkpbnobhaaGreat.Ev
open Go
theorem quot_eq (a b : I64) : zbc a b = zaY a b := (q_F_impl a b).trans (q_F_spec a b).symm
theorem radians_eq (n : I64) : zd6 n = zaz n := by
  have h := rad_eq n
  have h2 := tt_rad_spec n
  have h1 := tt_rad_impl n
  rw [h.1, h2] at h1
  exact (Option.some.inj h1).symm
theorem cosI_eq (x : Iv) : zfA x = zeF x := by simp only [zfA, t_impl_CosI, zeF, t_spec_CosI, Tr.get, over_eq]
theorem sinI_eq (x : Iv) : F_impl_SinI x = zeD x := by simp only [F_impl_SinI, t_impl_SinI, zeD, t_spec_SinI, Tr.get, over_eq]
theorem double_eq (a : Iv) : zed a = zcm a := by
  simp only [zed, t_impl_DoubleI, zcm, t_spec_DoubleI, Tr.get, add_eq, zaf, t_spec_AddI]
  cases zn a
  · rfl
  simp only [Bool.not_true, cond_false]
  have e1 : a.lo.val + a.lo.val = 2 * a.lo.val := by omega
  have e2 : a.hi.val + a.hi.val = 2 * a.hi.val := by omega
  rw [e1, e2]
theorem halve_eq (a : Iv) : zeX a = zdB a := by
  simp only [zeX, t_impl_halved, zdB, t_spec_l07Halve, Tr.get, add_eq, divI_F, zeQ, sqrtI_eq, sqrI_F]
theorem arcs_eq (a : Iv) : zd7 a = zd4 a := by
  simp only [zd7, zfq, zd4, t_spec_ArcSeries, Tr.get, add_eq, sub_eq, mulI_F, sqrI_F, quot_eq, tiny_eq, inside_eq, zch, zb5]
theorem core_eq (a : Iv) : zcq a = zck a := by
  simp only [zcq, zfR, zck, t_spec_l07Core, Tr.get, double_eq, arcs_eq, halve_eq]
theorem fix_eq (n : I64) : zdR n = zbr n := rfl
theorem fix_iff (n : I64) : zbr n = true ↔ (-1152921504606846976 < n.val /\ n.val < 1152921504606846976) := by
  simp only [zbr, t_spec_l07Fix, Tr.get]
  by_cases h1 : (-1152921504606846976 : Int) < n.val <;> simp [h1]
theorem turn_in {k : I64} (h : -4096 <= k.val) (h' : k.val <= 4096) : zcL k = true /\ zW k = zbA k := by
  obtain ⟨x, h1, h2, h3⟩ := turn_ok k h h'
  have g : zcL k = true := by unfold zcL;rw [h1];rfl
  have hi : zaG k ⟨(-4096), rfl⟩ ⟨4096, rfl⟩ = true := by rw [ze5];simpa using ⟨h, h'⟩
  exact ⟨g, by simp only [zW, t_spec_TurnI, Tr.get, hi, g, Bool.not_true, cond_false, cond_true]⟩
theorem half_eq : zbX = zbm := by
  obtain ⟨g, e⟩ := turn_in (k := ⟨1, rfl⟩) (by decide) (by decide)
  simp only [zbX, zeK, zbm, t_spec_l07Quarter, Tr.get, turnI_eq, e, g, cond_true]
theorem atanp_ok (n : I64) (h : ¬ n.val < 0) : (zes n).opt = some (zcW n) /\ (zew n).opt = some (zcW n) := by
  have hn : decide (n.val < 0) = false := by simpa using h
  simp only [zes, zew, zcW, Tr.opt, Tr.get, hn, cond_false, fix_eq, half_eq, sub_eq, turnI_eq, core_eq, divI_F, zeQ, at_eq]
  cases zbr n <;> cases decide (n.val > 4294967296) <;> exact ⟨rfl, rfl⟩
theorem atan_ok (n : I64) : ∃ x, (zfP n).opt = some x /\ (zfU n).opt = some x := by
  simp only [zfP, zfU, Tr.opt, fix_eq, half_eq, sub_eq, turnI_eq, core_eq, divI_F, zeQ, at_eq]
  cases hf : zbr n
  · exact ⟨_, rfl, rfl⟩
  have hb := (fix_iff n).1 hf
  by_cases hn : n.val < 0
  · have e1 : (Rng.w .i64 (0 - n.val)).val = 0 - n.val := wi (by omega) (by omega)
    obtain ⟨a1, a2⟩ := atanp_ok (.w .i64 (0 - n.val)) (by omega)
    have g1 : zeA (.w .i64 (0 - n.val)) = true := by unfold zeA;rw [a1];rfl
    have g2 : G_impl_AtanAt_p (.w .i64 (0 - n.val)) = true := by unfold G_impl_AtanAt_p;rw [a2];rfl
    have f2 : F_impl_AtanAt_p (.w .i64 (0 - n.val)) = zcW (.w .i64 (0 - n.val)) := Tr.zaR a2
    simp only [hn, decide_true, cond_true, g1, g2, f2, neg_eq, Bool.not_true, cond_false]
    exact ⟨_, rfl, rfl⟩
  · simp only [hn, decide_false, cond_false, Bool.not_true]
    cases decide (n.val > 4294967296) <;> exact ⟨_, rfl, rfl⟩
theorem atan_eq (n : I64) : zdS n = zcG n := by
  obtain ⟨x, h1, h2⟩ := atan_ok n
  exact (Tr.zaR h2).trans (Tr.zaR h1).symm
theorem tt_atan_impl (n : I64) : (zfU n).opt = some (zdS n) := by obtain ⟨x, _, h1⟩ := atan_ok n;exact opt_self h1
end Go.Proofs.YtfcjhkkpbnobhaaGreat.Ev
namespace Go.Proofs.YtfcjhkkpbnobhaaGreat.Ev
open Go Go.RowKit
set_option maxRecDepth 100000
section
noncomputable def ET_impl_AtanAt : Ent Tryz.prog := .of1 Tb297 B297 (fun _ => true) zdS fun a0 _ => (r_impl_AtanAt a0).trans (tt_atan_impl a0)
noncomputable def t_spec_AbsI (a0 : Iv) : Tr (Iv) :=
  .br (!(zn a0)) (.leaf zz) (let c3 := zP a0;.leaf (zay c3.a c3.b))
noncomputable def F_spec_AbsI : Iv -> Iv := fun a0 => (t_spec_AbsI a0).get
noncomputable def t_spec_IsWhole (a0 : Iv) : Tr (Bool) :=
  .leaf (!(zn a0))
noncomputable def zcl : Iv -> Bool := fun a0 => (t_spec_IsWhole a0).get
noncomputable def t_spec_AtanI (a0 : Iv) : Tr (Iv) :=
  .br (zcl a0) (.leaf zbm) (.leaf (zX (zcG a0.lo) (zcG a0.hi)))
noncomputable def zae : Iv -> Iv := fun a0 => (t_spec_AtanI a0).get
noncomputable def B236 : Bod Tryz.prog := ⟨236, Tryz.f236, Tryz.f236.body.getD .skip, Tryz.func236, by kernel_rfl, by kernel_rfl, zaU.no _ _⟩
noncomputable def Tb236 : Tb Tryz.prog := { T := [Y2, Y30], mix := mix, Es := [zb1, E_impl_HullI, E_impl_halfCircle, ET_impl_AtanAt], Bs := [], d := 1 }
noncomputable def t_impl_AtanI (a0 : Iv) : Tr (Iv) :=
  .br (zar a0) (.leaf zbX) (.leaf (zaw (zdS a0.lo) (zdS a0.hi)))
theorem r_impl_AtanI (a0 : Iv) : Tb236.run B236 [enc a0] (Iv) = (t_impl_AtanI a0).opt := by kernel_rfl
noncomputable def zct : Iv -> Iv := fun a0 => (t_impl_AtanI a0).get
theorem u_impl_AtanI (a0 : Iv) : (t_impl_AtanI a0).opt = some (zct a0) := Tr.zaB (by kernel_rfl)
noncomputable def E_impl_AtanI : Ent Tryz.prog := .of1 Tb236 B236 (fun _ => true) zct fun a0 _ => (r_impl_AtanI a0).trans (u_impl_AtanI a0)
noncomputable def B18 : Bod Tryz.prog := ⟨18, Tryz.f18, Tryz.f18.body.getD .skip, Tryz.func18, by kernel_rfl, by kernel_rfl, zaU.no _ _⟩
noncomputable def Tb18 : Tb Tryz.prog := { T := [Y30], mix := mix, Es := [E_spec_l04Ok, E_spec_l04Has], Bs := [], d := 1 }
noncomputable def t_spec_HasI (a0 : Iv) (a1 : I64) : Tr (Bool) :=
  .br (!(zn a0)) (.leaf true) (.leaf (zaH a0 a1))
theorem r_spec_HasI (a0 : Iv) (a1 : I64) : Tb18.run B18 [enc a0, enc a1] (Bool) = (t_spec_HasI a0 a1).opt := by kernel_rfl
noncomputable def zbT : Iv -> I64 -> Bool := fun a0 a1 => (t_spec_HasI a0 a1).get
theorem u_spec_HasI (a0 : Iv) (a1 : I64) : (t_spec_HasI a0 a1).opt = some (zbT a0 a1) := Tr.zaB (by kernel_rfl)
noncomputable def t_spec_DirectionAt (a0 : I64) (a1 : I64) : Tr (Iv) :=
  .br (!(zbr a0)) (.leaf zaV) (.br (!(zbr a1)) (.leaf zaV) (.br (a1.val == 0) (.br (a0.val == 0) (.leaf zaV) (.br (decide (a0.val < 0)) (let c6 := (Rng.w .i64 (0 - a0.val));.br (decide (c6.val > a1.val)) (.br (decide (c6.val > (Rng.w .i64 (0 - a1.val)).val)) (.br (decide (a0.val < 0)) (.leaf (zaa (zW ⟨(-1), rfl⟩) (zae (zL (zA a1) (zA a0))))) (.leaf (zaa (zW ⟨1, rfl⟩) (zae (zL (zA a1) (zA a0)))))) (.br (decide (a1.val > 0)) (.leaf (zae (zL (zA a0) (zA a1)))) (.br (decide (a0.val < 0)) (.leaf (zaf (zae (zL (zA a0) (zA a1))) (zW ⟨(-2), rfl⟩))) (.leaf (zaf (zae (zL (zA a0) (zA a1))) (zW ⟨2, rfl⟩)))))) (.br (decide (a1.val > 0)) (.leaf (zae (zL (zA a0) (zA a1)))) (.br (decide (a0.val < 0)) (.leaf (zaf (zae (zL (zA a0) (zA a1))) (zW ⟨(-2), rfl⟩))) (.leaf (zaf (zae (zL (zA a0) (zA a1))) (zW ⟨2, rfl⟩)))))) (.br (decide (a0.val > a1.val)) (.br (decide (a0.val > (Rng.w .i64 (0 - a1.val)).val)) (.br (decide (a0.val < 0)) (.leaf (zaa (zW ⟨(-1), rfl⟩) (zae (zL (zA a1) (zA a0))))) (.leaf (zaa (zW ⟨1, rfl⟩) (zae (zL (zA a1) (zA a0)))))) (.br (decide (a1.val > 0)) (.leaf (zae (zL (zA a0) (zA a1)))) (.br (decide (a0.val < 0)) (.leaf (zaf (zae (zL (zA a0) (zA a1))) (zW ⟨(-2), rfl⟩))) (.leaf (zaf (zae (zL (zA a0) (zA a1))) (zW ⟨2, rfl⟩)))))) (.br (decide (a1.val > 0)) (.leaf (zae (zL (zA a0) (zA a1)))) (.br (decide (a0.val < 0)) (.leaf (zaf (zae (zL (zA a0) (zA a1))) (zW ⟨(-2), rfl⟩))) (.leaf (zaf (zae (zL (zA a0) (zA a1))) (zW ⟨2, rfl⟩)))))))) (.br (decide (a0.val < 0)) (let c101 := (Rng.w .i64 (0 - a0.val));.br (decide (c101.val > a1.val)) (.br (decide (c101.val > (Rng.w .i64 (0 - a1.val)).val)) (.br (decide (a0.val < 0)) (.leaf (zaa (zW ⟨(-1), rfl⟩) (zae (zL (zA a1) (zA a0))))) (.leaf (zaa (zW ⟨1, rfl⟩) (zae (zL (zA a1) (zA a0)))))) (.br (decide (a1.val > 0)) (.leaf (zae (zL (zA a0) (zA a1)))) (.br (decide (a0.val < 0)) (.leaf (zaf (zae (zL (zA a0) (zA a1))) (zW ⟨(-2), rfl⟩))) (.leaf (zaf (zae (zL (zA a0) (zA a1))) (zW ⟨2, rfl⟩)))))) (.br (decide (a1.val > 0)) (.leaf (zae (zL (zA a0) (zA a1)))) (.br (decide (a0.val < 0)) (.leaf (zaf (zae (zL (zA a0) (zA a1))) (zW ⟨(-2), rfl⟩))) (.leaf (zaf (zae (zL (zA a0) (zA a1))) (zW ⟨2, rfl⟩)))))) (.br (decide (a0.val > a1.val)) (.br (decide (a0.val > (Rng.w .i64 (0 - a1.val)).val)) (.br (decide (a0.val < 0)) (.leaf (zaa (zW ⟨(-1), rfl⟩) (zae (zL (zA a1) (zA a0))))) (.leaf (zaa (zW ⟨1, rfl⟩) (zae (zL (zA a1) (zA a0)))))) (.br (decide (a1.val > 0)) (.leaf (zae (zL (zA a0) (zA a1)))) (.br (decide (a0.val < 0)) (.leaf (zaf (zae (zL (zA a0) (zA a1))) (zW ⟨(-2), rfl⟩))) (.leaf (zaf (zae (zL (zA a0) (zA a1))) (zW ⟨2, rfl⟩)))))) (.br (decide (a1.val > 0)) (.leaf (zae (zL (zA a0) (zA a1)))) (.br (decide (a0.val < 0)) (.leaf (zaf (zae (zL (zA a0) (zA a1))) (zW ⟨(-2), rfl⟩))) (.leaf (zaf (zae (zL (zA a0) (zA a1))) (zW ⟨2, rfl⟩)))))))))
noncomputable def zO : I64 -> I64 -> Iv := fun a0 a1 => (t_spec_DirectionAt a0 a1).get
noncomputable def zeI (a0 : Iv) (a1 : Iv) : Tr (Iv) :=
  .br (zcl a0) (.leaf zaV) (.br (zcl a1) (.leaf zaV) (.br (zbT a0 ⟨0, rfl⟩) (.br (zbT a1 ⟨0, rfl⟩) (.leaf zaV) (.br (decide (a1.lo.val < 0)) (.br (decide (a0.lo.val < 0)) (.br (decide (a0.hi.val >= 0)) (.leaf zaV) (.leaf (zX (zX (zO a0.lo a1.lo) (zO a0.lo a1.hi)) (zX (zO a0.hi a1.lo) (zO a0.hi a1.hi))))) (.leaf (zX (zX (zO a0.lo a1.lo) (zO a0.lo a1.hi)) (zX (zO a0.hi a1.lo) (zO a0.hi a1.hi))))) (.leaf (zX (zX (zO a0.lo a1.lo) (zO a0.lo a1.hi)) (zX (zO a0.hi a1.lo) (zO a0.hi a1.hi)))))) (.br (decide (a1.lo.val < 0)) (.br (decide (a0.lo.val < 0)) (.br (decide (a0.hi.val >= 0)) (.leaf zaV) (.leaf (zX (zX (zO a0.lo a1.lo) (zO a0.lo a1.hi)) (zX (zO a0.hi a1.lo) (zO a0.hi a1.hi))))) (.leaf (zX (zX (zO a0.lo a1.lo) (zO a0.lo a1.hi)) (zX (zO a0.hi a1.lo) (zO a0.hi a1.hi))))) (.leaf (zX (zX (zO a0.lo a1.lo) (zO a0.lo a1.hi)) (zX (zO a0.hi a1.lo) (zO a0.hi a1.hi)))))))
noncomputable def zcf : Iv -> Iv -> Iv := fun a0 a1 => (zeI a0 a1).get
noncomputable def B176 : Bod Tryz.prog := ⟨176, Tryz.f176, Tryz.f176.body.getD .skip, Tryz.func176, by kernel_rfl, by kernel_rfl, zaU.no _ _⟩
noncomputable def Tb176 : Tb Tryz.prog := { T := [Y2, Y30], mix := mix, Es := [zdT, zfB, E_impl_DivI, zaI, E_impl_abs, E_impl_at, E_impl_AtanI, ze0, E_impl_isOpen], Bs := [], d := 1 }
noncomputable def zda (a0 : I64) (a1 : I64) : Tr (Iv) :=
  .br (!(zdR a0)) (.leaf zQ) (.br (!(zdR a1)) (.leaf zQ) (.br (a0.val == 0) (.br (a1.val == 0) (.leaf zQ) (.br (decide ((zbq a0).val > (zbq a1).val)) (.br (decide (a0.val < 0)) (.leaf (zaD (za4 ⟨(-1), rfl⟩) (zct (zbj (zbZ a1) (zbZ a0))))) (.leaf (zaD (za4 ⟨1, rfl⟩) (zct (zbj (zbZ a1) (zbZ a0)))))) (let c24 := zct (zbj (zbZ a0) (zbZ a1));.br (decide (a1.val > 0)) (.leaf c24) (.br (decide (a0.val < 0)) (.leaf (zbo c24 (za4 ⟨(-2), rfl⟩))) (.leaf (zbo c24 (za4 ⟨2, rfl⟩))))))) (.br (decide ((zbq a0).val > (zbq a1).val)) (.br (decide (a0.val < 0)) (.leaf (zaD (za4 ⟨(-1), rfl⟩) (zct (zbj (zbZ a1) (zbZ a0))))) (.leaf (zaD (za4 ⟨1, rfl⟩) (zct (zbj (zbZ a1) (zbZ a0)))))) (let c47 := zct (zbj (zbZ a0) (zbZ a1));.br (decide (a1.val > 0)) (.leaf c47) (.br (decide (a0.val < 0)) (.leaf (zbo c47 (za4 ⟨(-2), rfl⟩))) (.leaf (zbo c47 (za4 ⟨2, rfl⟩))))))))
theorem r_impl_DirectionAt (a0 : I64) (a1 : I64) : Tb176.run B176 [enc a0, enc a1] (Iv) = (zda a0 a1).opt := by kernel_rfl
noncomputable def zT : I64 -> I64 -> Iv := fun a0 a1 => (zda a0 a1).get
theorem u_impl_DirectionAt (a0 : I64) (a1 : I64) : (zda a0 a1).opt = some (zT a0 a1) := Tr.zaB (by kernel_rfl)
noncomputable def E_impl_DirectionAt : Ent Tryz.prog := .of2 Tb176 B176 (fun _ _ => true) zT fun a0 a1 _ => (r_impl_DirectionAt a0 a1).trans (u_impl_DirectionAt a0 a1)
noncomputable def B84 : Bod Tryz.prog := ⟨84, Tryz.f84, Tryz.f84.body.getD .skip, Tryz.func84, by kernel_rfl, by kernel_rfl, zaU.no _ _⟩
noncomputable def Tb84 : Tb Tryz.prog := { T := [Y2, Y30], mix := mix, Es := [zcg, zaI, E_impl_HasI, E_impl_HullI, E_impl_DirectionAt], Bs := [], d := 1 }
noncomputable def zeN (a0 : Iv) (a1 : Iv) : Tr (Iv) :=
  .br (!(zbn a0 a1)) (.leaf zQ) (.br (zdp a0 ⟨0, rfl⟩) (.br (zdp a1 ⟨0, rfl⟩) (.leaf zQ) (.br (decide (a1.lo.val < 0)) (.br (decide (a0.lo.val < 0)) (.br (decide (a0.hi.val >= 0)) (.leaf zQ) (.leaf (zaw (zaw (zT a0.lo a1.lo) (zT a0.lo a1.hi)) (zaw (zT a0.hi a1.lo) (zT a0.hi a1.hi))))) (.leaf (zaw (zaw (zT a0.lo a1.lo) (zT a0.lo a1.hi)) (zaw (zT a0.hi a1.lo) (zT a0.hi a1.hi))))) (.leaf (zaw (zaw (zT a0.lo a1.lo) (zT a0.lo a1.hi)) (zaw (zT a0.hi a1.lo) (zT a0.hi a1.hi)))))) (.br (decide (a1.lo.val < 0)) (.br (decide (a0.lo.val < 0)) (.br (decide (a0.hi.val >= 0)) (.leaf zQ) (.leaf (zaw (zaw (zT a0.lo a1.lo) (zT a0.lo a1.hi)) (zaw (zT a0.hi a1.lo) (zT a0.hi a1.hi))))) (.leaf (zaw (zaw (zT a0.lo a1.lo) (zT a0.lo a1.hi)) (zaw (zT a0.hi a1.lo) (zT a0.hi a1.hi))))) (.leaf (zaw (zaw (zT a0.lo a1.lo) (zT a0.lo a1.hi)) (zaw (zT a0.hi a1.lo) (zT a0.hi a1.hi))))))
theorem r_impl_DirectionI (a0 : Iv) (a1 : Iv) : Tb84.run B84 [enc a0, enc a1] (Iv) = (zeN a0 a1).opt := by kernel_rfl
noncomputable def zcV : Iv -> Iv -> Iv := fun a0 a1 => (zeN a0 a1).get
theorem u_impl_DirectionI (a0 : Iv) (a1 : Iv) : (zeN a0 a1).opt = some (zcV a0 a1) := Tr.zaB (by kernel_rfl)
noncomputable def E_impl_DirectionI : Ent Tryz.prog := .of2 Tb84 B84 (fun _ _ => true) zcV fun a0 a1 _ => (r_impl_DirectionI a0 a1).trans (u_impl_DirectionI a0 a1)
noncomputable def t_spec_l10Ends (a0 : Iv) : Tr (T2 I64 I64) :=
  let c1 := F_spec_AbsI a0;.leaf ⟨c1.lo, c1.hi⟩
noncomputable def F_spec_l10Ends : Iv -> T2 I64 I64 := fun a0 => (t_spec_l10Ends a0).get
noncomputable def t_spec_l10Sum (a0 : I64) (a1 : I64) (a2 : I64) : Tr (Wide) :=
  .leaf (zb0 (zb0 (zcF a0 a0) (zcF a1 a1)) (zcF a2 a2))
noncomputable def F_spec_l10Sum : I64 -> I64 -> I64 -> Wide := fun a0 a1 a2 => (t_spec_l10Sum a0 a1 a2).get
noncomputable def t_spec_NormV (a0 : Vec) : Tr (Iv) :=
  .br (zcl a0.x) (.leaf zaV) (.br (zcl a0.y) (.leaf zaV) (.br (zcl a0.z) (.leaf zaV) (let c7 := F_spec_l10Ends a0.x;let c8 := F_spec_l10Ends a0.y;let c9 := F_spec_l10Ends a0.z;let c11 := zH (F_spec_l10Sum c7.a c8.a c9.a);let c12 := F_spec_l10Sum c7.b c8.b c9.b;let c13 := zH c12;let c14 := zcF (Rng.w .i64 (c13.val)) (Rng.w .i64 (c13.val));.br (!((c14.hi.val == c12.hi.val) && ((c14.lo.val == c12.lo.val) && true))) (let c16 := (Rng.w .i64 ((Rng.w .i64 (c13.val)).val + 1));.br (decide (c16.val >= 1152921504606846976)) (.leaf zaV) (.leaf ⟨(Rng.w .i64 (c11.val)), c16⟩)) (.br (decide ((Rng.w .i64 (c13.val)).val >= 1152921504606846976)) (.leaf zaV) (.leaf ⟨(Rng.w .i64 (c11.val)), (Rng.w .i64 (c13.val))⟩)))))
noncomputable def zeE : Vec -> Iv := fun a0 => (t_spec_NormV a0).get
noncomputable def B256 : Bod Tryz.prog := ⟨256, Tryz.f256, Tryz.f256.body.getD .skip, Tryz.func256, by kernel_rfl, by kernel_rfl, zaU.no _ _⟩
noncomputable def Tb256 : Tb Tryz.prog := { T := [Y2, Y132, Y148], mix := mix, Es := [E_math_bits_Add64], Bs := [], d := 1 }
noncomputable def zdh (a0 : Wide) (a1 : Wide) : Tr (T2 Wide Bool) :=
  let c1 := zaF a0.lo a1.lo ⟨0, rfl⟩;.br (G_carry (Rng.w .u64 (a0.hi.val)) (Rng.w .u64 (a1.hi.val)) c1.b) (let c2 := zaF (Rng.w .u64 (a0.hi.val)) (Rng.w .u64 (a1.hi.val)) c1.b;.br (decide ((Rng.w .i64 (zbd .and .i64 (Rng.w .i64 (zbd .xor .i64 a0.hi.val (Rng.w .i64 (c2.a.val)).val)).val (Rng.w .i64 (zbd .xor .i64 a1.hi.val (Rng.w .i64 (c2.a.val)).val)).val)).val < 0)) (.leaf ⟨⟨⟨0, rfl⟩, ⟨0, rfl⟩⟩, false⟩) (.leaf ⟨⟨(Rng.w .i64 (c2.a.val)), c1.a⟩, true⟩)) (.bad)
theorem r_impl_WideAdd (a0 : Wide) (a1 : Wide) : Tb256.run B256 [enc a0, enc a1] (T2 Wide Bool) = (zdh a0 a1).opt := by kernel_rfl
noncomputable def zfk : Wide -> Wide -> T2 Wide Bool := fun a0 a1 => (zdh a0 a1).get
noncomputable def zdj : Wide -> Wide -> Bool := fun a0 a1 => (zdh a0 a1).opt.isSome
noncomputable def E_impl_WideAdd : Ent Tryz.prog := .of2 Tb256 B256 zdj zfk fun a0 a1 h => (r_impl_WideAdd a0 a1).trans (Tr.get_some h)
noncomputable def B177 : Bod Tryz.prog := ⟨177, Tryz.f177, Tryz.f177.body.getD .skip, Tryz.func177, by kernel_rfl, by kernel_rfl, zaU.no _ _⟩
noncomputable def Tb177 : Tb Tryz.prog := { T := [Y2, Y132, Y148], mix := mix, Es := [E_impl_WideAdd, zee, ET_impl_WideSqrt], Bs := [], d := 1 }
noncomputable def zcA (a0 : I64) (a1 : I64) (a2 : I64) : Tr (T2 I64 I64) :=
  let c1 := zbp a0 a0;let c2 := zbp a1 a1;.br (zdj c1 c2) (let c3 := zfk c1 c2;let c4 := zbp a2 a2;.br (zdj c3.a c4) (let c5 := zfk c3.a c4;let c6 := zcr c5.a;let c7 := zbp (Rng.w .i64 (c6.a.val)) (Rng.w .i64 (c6.a.val));.br (!((c7.hi.val == c5.a.hi.val) && ((c7.lo.val == c5.a.lo.val) && true))) (.leaf ⟨(Rng.w .i64 (c6.a.val)), (Rng.w .i64 ((Rng.w .i64 (c6.a.val)).val + 1))⟩) (.leaf ⟨(Rng.w .i64 (c6.a.val)), (Rng.w .i64 (c6.a.val))⟩)) (.bad)) (.bad)
theorem r_impl_rootOfSquares (a0 : I64) (a1 : I64) (a2 : I64) : Tb177.run B177 [enc a0, enc a1, enc a2] (T2 I64 I64) = (zcA a0 a1 a2).opt := by kernel_rfl
noncomputable def zcC : I64 -> I64 -> I64 -> T2 I64 I64 := fun a0 a1 a2 => (zcA a0 a1 a2).get
noncomputable def zbF : I64 -> I64 -> I64 -> Bool := fun a0 a1 a2 => (zcA a0 a1 a2).opt.isSome
noncomputable def E_impl_rootOfSquares : Ent Tryz.prog := .of3 Tb177 B177 zbF zcC fun a0 a1 a2 h => (r_impl_rootOfSquares a0 a1 a2).trans (Tr.get_some h)
noncomputable def B85 : Bod Tryz.prog := ⟨85, Tryz.f85, Tryz.f85.body.getD .skip, Tryz.func85, by kernel_rfl, by kernel_rfl, zaU.no _ _⟩
noncomputable def Tb85 : Tb Tryz.prog := { T := [Y2, Y30, Y40], mix := mix, Es := [zb1, E_impl_AbsI, zcg, zaI, zcO, E_impl_rootOfSquares], Bs := [], d := 1 }
noncomputable def t_impl_NormV (a0 : Vec) : Tr (Iv) :=
  .br (!(zbn a0.x a0.y)) (.leaf zQ) (.br (zar a0.z) (.leaf zQ) (let c5 := zdr a0.x;let c6 := zdr a0.y;let c7 := zdr a0.z;.br (zbF c5.lo c6.lo c7.lo) (.br (zbF c5.hi c6.hi c7.hi) (.leaf (za3 (zcC c5.lo c6.lo c7.lo).a (zcC c5.hi c6.hi c7.hi).b true)) (.bad)) (.bad)))
theorem r_impl_NormV (a0 : Vec) : Tb85.run B85 [enc a0] (Iv) = (t_impl_NormV a0).opt := by kernel_rfl
noncomputable def F_impl_NormV : Vec -> Iv := fun a0 => (t_impl_NormV a0).get
noncomputable def B17 : Bod Tryz.prog := ⟨17, Tryz.f17, Tryz.f17.body.getD .skip, Tryz.func17, by kernel_rfl, by kernel_rfl, zaU.no _ _⟩
noncomputable def Tb17 : Tb Tryz.prog := { T := [Y2, Y30], mix := mix, Es := [E_spec_l04Ok], Bs := [], d := 1 }
noncomputable def zfF (a0 : Iv) (a1 : Iv) : Tr (I64) :=
  .br (!(zn a0)) (.leaf ⟨2, rfl⟩) (.br (!(zn a1)) (.leaf ⟨2, rfl⟩) (.br (decide (a0.hi.val < a1.lo.val)) (.leaf ⟨1, rfl⟩) (.br (decide (a0.lo.val >= a1.hi.val)) (.leaf ⟨0, rfl⟩) (.leaf ⟨2, rfl⟩))))
theorem r_spec_LessI (a0 : Iv) (a1 : Iv) : Tb17.run B17 [enc a0, enc a1] (I64) = (zfF a0 a1).opt := by kernel_rfl
noncomputable def zbl : Iv -> Iv -> I64 := fun a0 a1 => (zfF a0 a1).get
theorem u_spec_LessI (a0 : Iv) (a1 : Iv) : (zfF a0 a1).opt = some (zbl a0 a1) := Tr.zaB (by kernel_rfl)
noncomputable def B78 : Bod Tryz.prog := ⟨78, Tryz.f78, Tryz.f78.body.getD .skip, Tryz.func78, by kernel_rfl, by kernel_rfl, zaU.no _ _⟩
noncomputable def Tb78 : Tb Tryz.prog := { T := [Y2, Y30], mix := mix, Es := [zcg], Bs := [], d := 1 }
noncomputable def t_impl_LessI (a0 : Iv) (a1 : Iv) : Tr (I64) :=
  .br (!(zbn a0 a1)) (.leaf ⟨2, rfl⟩) (.br (decide (a0.hi.val < a1.lo.val)) (.leaf ⟨1, rfl⟩) (.br (decide (a0.lo.val >= a1.hi.val)) (.leaf ⟨0, rfl⟩) (.leaf ⟨2, rfl⟩)))
theorem r_impl_LessI (a0 : Iv) (a1 : Iv) : Tb78.run B78 [enc a0, enc a1] (I64) = (t_impl_LessI a0 a1).opt := by kernel_rfl
noncomputable def F_impl_LessI : Iv -> Iv -> I64 := fun a0 a1 => (t_impl_LessI a0 a1).get
theorem u_impl_LessI (a0 : Iv) (a1 : Iv) : (t_impl_LessI a0 a1).opt = some (F_impl_LessI a0 a1) := Tr.zaB (by kernel_rfl)
noncomputable def E_impl_LessI : Ent Tryz.prog := .of2 Tb78 B78 (fun _ _ => true) F_impl_LessI fun a0 a1 _ => (r_impl_LessI a0 a1).trans (u_impl_LessI a0 a1)
structure S_spec_LogAt_5 where
  x0 : I64
  x1 : I64
  x2 : I64
  x3 : I64
  x4 : I64
  x5 : I64
instance : Inhabited S_spec_LogAt_5 := ⟨⟨default, default, default, default, default, default⟩⟩
structure S_spec_LogAt_8 where
  x0 : I64
  x1 : I64
  x2 : I64
  x3 : I64
  x4 : I64
  x5 : I64
instance : Inhabited S_spec_LogAt_8 := ⟨⟨default, default, default, default, default, default⟩⟩
structure S_impl_twosOf_2 where
  x0 : I64
  x1 : I64
instance : Inhabited S_impl_twosOf_2 := ⟨⟨default, default⟩⟩
structure S_impl_twosOf_4 where
  x0 : I64
  x1 : I64
instance : Inhabited S_impl_twosOf_4 := ⟨⟨default, default⟩⟩
end
end Go.Proofs.YtfcjhkkpbnobhaaGreat.Ev
namespace Go.Proofs.YtfcjhkkpbnobhaaGreat.Ev
open Go
theorem ctr {α : Type} (a b : α) : (bif true then a else b) = a := by simp
theorem cfl {α : Type} (a b : α) : (bif false then a else b) = b := by simp
theorem siw_eq (a : Iv) : zcl a = !(zn a) := by simp only [zcl, t_spec_IsWhole, Tr.get]
theorem hasI_eq (a : Iv) (n : I64) : zdp a n = zbT a n := by
  simp only [zdp, t_impl_HasI, zbT, t_spec_HasI, zaH, zb2, Tr.get, isw_eq, zc6, ze5]
theorem atanI_impl (a : Iv) : zct a = bif zar a then zbX else zaw (zdS a.lo) (zdS a.hi) := by
  simp only [zct, t_impl_AtanI, Tr.get]
theorem atanI_spec (a : Iv) : zae a = bif zcl a then zbm else zX (zcG a.lo) (zcG a.hi) := by
  simp only [zae, t_spec_AtanI, Tr.get]
theorem atanI_eq (a : Iv) : zct a = zae a := by
  rw [atanI_impl, atanI_spec, isw_eq, siw_eq, half_eq, atan_eq, atan_eq, hull_eq]
theorem dirAt_eq (y x : I64) : zT y x = zO y x := by
  simp only [zT, zda, zO, t_spec_DirectionAt, Tr.get]
  simp only [fix_eq, atanI_eq, divI_F, at_eq, sub_eq, add_eq, turnI_eq, zch, zb5]
  cases hy : zbr y
  · rfl
  cases hx : zbr x
  · rfl
  have by' := (fix_iff y).1 hy
  have bx := (fix_iff x).1 hx
  have ey : (Rng.w .i64 (0 - y.val)).val = -y.val := by rw [wi (by omega) (by omega)];omega
  have ex : (Rng.w .i64 (0 - x.val)).val = -x.val := by rw [wi (by omega) (by omega)];omega
  have ay := abs_val y (by omega)
  have ax := abs_val x (by omega)
  simp only [Bool.not_true, cond_false, ey, ex]
  by_cases hn : y.val < 0
  · have hA : decide ((zbq y).val > (zbq x).val) = (decide (-y.val > x.val) && decide (-y.val > -x.val)) := by
      rw [ay, ax, if_pos hn, <- Bool.decide_and, decide_eq_decide]
      split <;> omega
    simp only [hn, decide_true, cond_true, hA]
    generalize decide (-y.val > x.val) = b1
    generalize decide (-y.val > -x.val) = b2
    generalize decide (x.val > 0) = b3
    generalize (x.val == 0) = b4
    generalize (y.val == 0) = b5
    cases b1 <;> cases b2 <;> cases b3 <;> cases b4 <;> cases b5 <;> simp only [ctr, cfl, Bool.and_self, Bool.and_false, Bool.and_true, Bool.false_and, Bool.true_and]
  · have hA : decide ((zbq y).val > (zbq x).val) = (decide (y.val > x.val) && decide (y.val > -x.val)) := by
      rw [ay, ax, if_neg hn, <- Bool.decide_and, decide_eq_decide]
      split <;> omega
    simp only [hn, decide_false, cond_false, hA]
    generalize decide (y.val > x.val) = b1
    generalize decide (y.val > -x.val) = b2
    generalize decide (x.val > 0) = b3
    generalize (x.val == 0) = b4
    generalize (y.val == 0) = b5
    cases b1 <;> cases b2 <;> cases b3 <;> cases b4 <;> cases b5 <;> simp only [ctr, cfl, Bool.and_self, Bool.and_false, Bool.and_true, Bool.false_and, Bool.true_and]
theorem dirI_eq (y x : Iv) : zcV y x = zcf y x := by
  simp only [zcV, zeN, zcf, zeI, Tr.get]
  simp only [areb_eq, siw_eq, hasI_eq, dirAt_eq, hull_eq, zch, zb5]
  cases zn y <;> cases zn x <;> simp only [ctr, cfl, Bool.and_self, Bool.and_false, Bool.and_true, Bool.false_and, Bool.true_and, Bool.not_true, Bool.not_false]
theorem less_eq (a b : Iv) : F_impl_LessI a b = zbl a b := by
  simp only [F_impl_LessI, t_impl_LessI, zbl, zfF, Tr.get, areb_eq]
  cases zn a <;> cases zn b <;> rfl
theorem abs_ends {a : Iv} (h : zn a = true) : zdr a = ⟨(zP a).a, (zP a).b⟩ := by
  simp only [zdr, t_impl_AbsI, zP, zfb, Tr.get, isw_eq, h, Bool.not_true, cond_false, has_eq a _ h, max_eq, min_eq, zbq, t_impl_abs]
  cases zaH a ⟨0, rfl⟩ <;> rfl
theorem abs_make {a : Iv} (h : zn a = true) : F_spec_AbsI a = ⟨(zP a).a, (zP a).b⟩ := by
  simp only [F_spec_AbsI, t_spec_AbsI, Tr.get, h, Bool.not_true, cond_false]
  obtain ⟨p, q, e, h1, h2, h3⟩ := zfY h
  have := (zcc a).1 h
  rw [e]
  exact zcY (by simp only;omega)
theorem ends_eq (a : Iv) : F_spec_l10Ends a = ⟨(F_spec_AbsI a).lo, (F_spec_AbsI a).hi⟩ := rfl
theorem plus_spec (a b : Wide) (h : -170141183460469231731687303715884105728 <= wv a + wv b /\ wv a + wv b < 170141183460469231731687303715884105728) : zb0 a b = mkW (wv a + wv b) := by
  have ba := a.lo.ubd;have bb := b.lo.ubd
  have ha := a.hi.bd;have hb := b.hi.bd
  apply mkW_eq
  simp only [wv] at h
  simp only [zb0, t_spec_l02Plus, Tr.get]
  have e2 : (Rng.w .u64 (a.lo.val + b.lo.val)).val = (a.lo.val + b.lo.val) % 18446744073709551616 := za9 _
  simp only [e2]
  by_cases hc : (a.lo.val + b.lo.val) % 18446744073709551616 < a.lo.val
  · simp only [hc, decide_true, cond_true, wv, e2]
    rw [zdv, zdv]
    omega
  · simp only [hc, decide_false, cond_false, wv, e2]
    rw [zdv]
    omega
theorem xor_pos {a b : Int} (ha : 0 <= a /\ a <= 9223372036854775807) (hb : 0 <= b /\ b <= 9223372036854775807) : 0 <= (Rng.w .i64 (zbd .xor .i64 a b)).val /\ (Rng.w .i64 (zbd .xor .i64 a b)).val <= 9223372036854775807 := by
  have e : zbd .xor .i64 a b = ((BitVec.ofInt 64 a ^^^ BitVec.ofInt 64 b).toNat : Int) := rfl
  have h1 : (BitVec.ofInt 64 a).toNat < 2 ^ 63 := by rw [bv_toNat ha.1 (by omega)];omega
  have h2 : (BitVec.ofInt 64 b).toNat < 2 ^ 63 := by rw [bv_toNat hb.1 (by omega)];omega
  have h3 : (BitVec.ofInt 64 a ^^^ BitVec.ofInt 64 b).toNat < 2 ^ 63 := by rw [BitVec.toNat_xor];exact Nat.xor_lt_two_pow h1 h2
  rw [e, wi (by omega) (by omega)];omega
theorem and_pos {a b : Int} (ha : 0 <= a /\ a <= 9223372036854775807) (hb : 0 <= b /\ b <= 9223372036854775807) : 0 <= (Rng.w .i64 (zbd .and .i64 a b)).val := by
  have e : zbd .and .i64 a b = ((BitVec.ofInt 64 a &&& BitVec.ofInt 64 b).toNat : Int) := rfl
  have h2 : (BitVec.ofInt 64 b).toNat < 2 ^ 63 := by rw [bv_toNat hb.1 (by omega)];omega
  have h3 : (BitVec.ofInt 64 a &&& BitVec.ofInt 64 b).toNat < 2 ^ 63 := by rw [BitVec.toNat_and];exact Nat.lt_of_le_of_lt Nat.and_le_right h2
  rw [e, wi (by omega) (by omega)];omega
theorem add_impl (a b : Wide) (ha : 0 <= wv a) (hb : 0 <= wv b) (h : wv a + wv b < 170141183460469231731687303715884105728) : (zdh a b).opt = some ⟨mkW (wv a + wv b), true⟩ := by
  have ba := a.lo.ubd;have bb := b.lo.ubd
  have ha' := a.hi.bd;have hb' := b.hi.bd
  have hwv : wv a + wv b = (a.hi.val + b.hi.val) * 18446744073709551616 + (a.lo.val + b.lo.val) := by simp only [wv];omega
  have pa : 0 <= a.hi.val := by simp only [wv] at ha;omega
  have pb : 0 <= b.hi.val := by simp only [wv] at hb;omega
  have ec : (zaF a.lo b.lo ⟨0, rfl⟩).b.val = (a.lo.val + b.lo.val) / 18446744073709551616 := by
    simp only [zaF];rw [wu (by omega) (by omega)];omega
  have hg : G_carry (Rng.w .u64 a.hi.val) (Rng.w .u64 b.hi.val) (zaF a.lo b.lo ⟨0, rfl⟩).b = true := by simp only [G_carry, ec];simp;omega
  have ea : (Rng.w .u64 a.hi.val).val = a.hi.val := wu pa (by omega)
  have eb : (Rng.w .u64 b.hi.val).val = b.hi.val := wu pb (by omega)
  have e2 : (zaF (Rng.w .u64 a.hi.val) (Rng.w .u64 b.hi.val) (zaF a.lo b.lo ⟨0, rfl⟩).b).a.val = a.hi.val + b.hi.val + (a.lo.val + b.lo.val) / 18446744073709551616 := by
    show (Rng.w .u64 _).val = _
    rw [ea, eb, ec, wu (by omega) (by omega)]
  have hlt : a.hi.val + b.hi.val + (a.lo.val + b.lo.val) / 18446744073709551616 <= 9223372036854775807 := by omega
  have e3 : (Rng.w .i64 (zaF (Rng.w .u64 a.hi.val) (Rng.w .u64 b.hi.val) (zaF a.lo b.lo ⟨0, rfl⟩).b).a.val).val = a.hi.val + b.hi.val + (a.lo.val + b.lo.val) / 18446744073709551616 := by
    rw [e2, wi (by omega) hlt]
  have e1 : (zaF a.lo b.lo ⟨0, rfl⟩).a.val = (a.lo.val + b.lo.val) % 18446744073709551616 := by
    simp only [zaF];rw [za9];omega
  simp only [zdh, Tr.opt, hg, cond_true, e3]
  have x1 := xor_pos (a := a.hi.val) (b := a.hi.val + b.hi.val + (a.lo.val + b.lo.val) / 18446744073709551616) ⟨pa, by omega⟩ ⟨by omega, hlt⟩
  have x2 := xor_pos (a := b.hi.val) (b := a.hi.val + b.hi.val + (a.lo.val + b.lo.val) / 18446744073709551616) ⟨pb, by omega⟩ ⟨by omega, hlt⟩
  have x3 := and_pos x1 x2
  rw [show decide ((Rng.w .i64 (zbd .and .i64 (Rng.w .i64 (zbd .xor .i64 a.hi.val (a.hi.val + b.hi.val + (a.lo.val + b.lo.val) / 18446744073709551616))).val (Rng.w .i64 (zbd .xor .i64 b.hi.val (a.hi.val + b.hi.val + (a.lo.val + b.lo.val) / 18446744073709551616))).val)).val < 0) = false by simpa using x3]
  simp only [cond_false]
  congr 2
  apply mkW_eq
  simp only [wv, e3, e1]
  omega
theorem wsqrt_mk {v : Int} (h : 0 <= v) (h' : v < 170141183460469231731687303715884105728) : zcr (mkW v) = ⟨zH (mkW v), true⟩ := by
  refine wsqrt_eq _ ?_
  simp only [mkW];rw [wi (by omega) (by omega)];omega
theorem root_mk {v : Int} (h : 0 <= v) (h' : v < 170141183460469231731687303715884105728) : 0 <= (zH (mkW v)).val /\ (zH (mkW v)).val * (zH (mkW v)).val <= v /\ v < ((zH (mkW v)).val + 1) * ((zH (mkW v)).val + 1) := by
  have := root_val (mkW v) (by simp only [mkW];rw [wi (by omega) (by omega)];omega)
  rwa [zfC (by omega) h'] at this
def sq3 (x y z : I64) : Int := x.val * x.val + y.val * y.val + z.val * z.val
theorem sum_spec {x y z : I64} (hx : 0 <= x.val /\ x.val <= 1152921504606846976) (hy : 0 <= y.val /\ y.val <= 1152921504606846976) (hz : 0 <= z.val /\ z.val <= 1152921504606846976) :
    F_spec_l10Sum x y z = mkW (sq3 x y z) /\ 0 <= sq3 x y z /\ sq3 x y z <= 3987683987354747618711421180841033728 /\
    (zcA x y z).opt = some ⟨.w .i64 (zH (mkW (sq3 x y z))).val, bif !(((mkW ((Rng.w .i64 (zH (mkW (sq3 x y z))).val).val * (Rng.w .i64 (zH (mkW (sq3 x y z))).val).val)).hi.val == (mkW (sq3 x y z)).hi.val) && (((mkW ((Rng.w .i64 (zH (mkW (sq3 x y z))).val).val * (Rng.w .i64 (zH (mkW (sq3 x y z))).val).val)).lo.val == (mkW (sq3 x y z)).lo.val) && true)) then .w .i64 ((Rng.w .i64 (zH (mkW (sq3 x y z))).val).val + 1) else .w .i64 (zH (mkW (sq3 x y z))).val⟩ := by
  have px := Int.mul_nonneg hx.1 hx.1
  have py := Int.mul_nonneg hy.1 hy.1
  have pz := Int.mul_nonneg hz.1 hz.1
  have qx : x.val * x.val <= 1152921504606846976 * 1152921504606846976 := Int.mul_le_mul hx.2 hx.2 hx.1 (by decide)
  have qy : y.val * y.val <= 1152921504606846976 * 1152921504606846976 := Int.mul_le_mul hy.2 hy.2 hy.1 (by decide)
  have qz : z.val * z.val <= 1152921504606846976 * 1152921504606846976 := Int.mul_le_mul hz.2 hz.2 hz.1 (by decide)
  have wx := zfC (v := x.val * x.val) (by omega) (by omega)
  have wy := zfC (v := y.val * y.val) (by omega) (by omega)
  have wz := zfC (v := z.val * z.val) (by omega) (by omega)
  have wxy := zfC (v := x.val * x.val + y.val * y.val) (by omega) (by omega)
  have s1 : zb0 (mkW (x.val * x.val)) (mkW (y.val * y.val)) = mkW (x.val * x.val + y.val * y.val) := by rw [plus_spec _ _ (by rw [wx, wy];omega), wx, wy]
  have s2 : zb0 (mkW (x.val * x.val + y.val * y.val)) (mkW (z.val * z.val)) = mkW (sq3 x y z) := by rw [plus_spec _ _ (by rw [wxy, wz];omega), wxy, wz];rfl
  have i1 : (zdh (mkW (x.val * x.val)) (mkW (y.val * y.val))).opt = some ⟨mkW (x.val * x.val + y.val * y.val), true⟩ := by rw [add_impl _ _ (by omega) (by omega) (by rw [wx, wy];omega), wx, wy]
  have i2 : (zdh (mkW (x.val * x.val + y.val * y.val)) (mkW (z.val * z.val))).opt = some ⟨mkW (sq3 x y z), true⟩ := by rw [add_impl _ _ (by omega) (by omega) (by rw [wxy, wz];omega), wxy, wz];rfl
  have g1 : zdj (mkW (x.val * x.val)) (mkW (y.val * y.val)) = true := by unfold zdj;rw [i1];rfl
  have g2 : zdj (mkW (x.val * x.val + y.val * y.val)) (mkW (z.val * z.val)) = true := by unfold zdj;rw [i2];rfl
  have f1 : zfk (mkW (x.val * x.val)) (mkW (y.val * y.val)) = _ := Tr.zaR i1
  have f2 : zfk (mkW (x.val * x.val + y.val * y.val)) (mkW (z.val * z.val)) = _ := Tr.zaR i2
  have hs : sq3 x y z = x.val * x.val + y.val * y.val + z.val * z.val := rfl
  have h0 : 0 <= sq3 x y z := by omega
  have h1 : sq3 x y z <= 3987683987354747618711421180841033728 := by omega
  refine ⟨?_, h0, h1, ?_⟩
  · simp only [F_spec_l10Sum, t_spec_l10Sum, Tr.get, mul_spec, s1, s2]
  · simp only [zcA, Tr.opt, mul_impl, g1, f1, g2, f2, cond_true, wsqrt_mk h0 (by omega)]
    cases (!(((mkW ((Rng.w .i64 (zH (mkW (sq3 x y z))).val).val * (Rng.w .i64 (zH (mkW (sq3 x y z))).val).val)).hi.val == (mkW (sq3 x y z)).hi.val) && (((mkW ((Rng.w .i64 (zH (mkW (sq3 x y z))).val).val * (Rng.w .i64 (zH (mkW (sq3 x y z))).val).val)).lo.val == (mkW (sq3 x y z)).lo.val) && true))) <;> rfl
theorem sq_mono {a b : Int} (h : 0 <= a) (h' : a <= b) : a * a <= b * b := Int.mul_le_mul h' h' h (by omega)
theorem norm_ok (v : Vec) : (t_impl_NormV v).opt = some (zeE v) := by
  simp only [t_impl_NormV, Tr.opt, zeE, t_spec_NormV, Tr.get, areb_eq, isw_eq, siw_eq, zch, zb5, ends_eq]
  cases hx : zn v.x
  · rfl
  cases hy : zn v.y
  · rfl
  cases hz : zn v.z
  · rfl
  simp only [Bool.and_self, Bool.not_true, cond_false, abs_ends hx, abs_ends hy, abs_ends hz, abs_make hx, abs_make hy, abs_make hz]
  have bx := (zcc v.x).1 hx
  have by' := (zcc v.y).1 hy
  have bz := (zcc v.z).1 hz
  obtain ⟨x1, x2, ex, x3, x4, x5⟩ := zfY hx
  obtain ⟨y1, y2, ey, y3, y4, y5⟩ := zfY hy
  obtain ⟨z1, z2, ez, z3, z4, z5⟩ := zfY hz
  simp only [ex, ey, ez]
  obtain ⟨a1, a2, a3, a4⟩ := sum_spec (x := x1) (y := y1) (z := z1) (by omega) (by omega) (by omega)
  obtain ⟨b1, b2, b3, b4⟩ := sum_spec (x := x2) (y := y2) (z := z2) (by omega) (by omega) (by omega)
  have ga : zbF x1 y1 z1 = true := by unfold zbF;rw [a4];rfl
  have gb : zbF x2 y2 z2 = true := by unfold zbF;rw [b4];rfl
  have fa : zcC x1 y1 z1 = _ := Tr.zaR a4
  have fb : zcC x2 y2 z2 = _ := Tr.zaR b4
  obtain ⟨r0, r1, r2⟩ := root_mk a2 (by omega)
  obtain ⟨q0, q1, q2⟩ := root_mk b2 (by omega)
  have hle : sq3 x1 y1 z1 <= sq3 x2 y2 z2 := by
    have k1 := sq_mono x3 x4
    have k2 := sq_mono y3 y4
    have k3 := sq_mono z3 z4
    unfold sq3;omega
  have hR : (zH (mkW (sq3 x1 y1 z1))).val <= (zH (mkW (sq3 x2 y2 z2))).val := by
    by_cases hh : (zH (mkW (sq3 x1 y1 z1))).val <= (zH (mkW (sq3 x2 y2 z2))).val
    · exact hh
    · have := sq_mono (a := (zH (mkW (sq3 x2 y2 z2))).val + 1) (b := (zH (mkW (sq3 x1 y1 z1))).val) (by omega) (by omega)
      omega
  have hQ : (zH (mkW (sq3 x2 y2 z2))).val <= 2305843009213693952 := sq_lt q0 (by decide) (by omega)
  have w1 : (Rng.w .i64 (zH (mkW (sq3 x1 y1 z1))).val).val = (zH (mkW (sq3 x1 y1 z1))).val := wi (by omega) (by omega)
  have w2 : (Rng.w .i64 (zH (mkW (sq3 x2 y2 z2))).val).val = (zH (mkW (sq3 x2 y2 z2))).val := wi (by omega) (by omega)
  have w3 : (Rng.w .i64 ((zH (mkW (sq3 x2 y2 z2))).val + 1)).val = (zH (mkW (sq3 x2 y2 z2))).val + 1 := wi (by omega) (by omega)
  simp only [ga, gb, fa, fb, cond_true, a1, b1, mul_spec, zfI]
  generalize hc : ((mkW ((Rng.w .i64 (zH (mkW (sq3 x2 y2 z2))).val).val * (Rng.w .i64 (zH (mkW (sq3 x2 y2 z2))).val).val)).hi.val == (mkW (sq3 x2 y2 z2)).hi.val && ((mkW ((Rng.w .i64 (zH (mkW (sq3 x2 y2 z2))).val).val * (Rng.w .i64 (zH (mkW (sq3 x2 y2 z2))).val).val)).lo.val == (mkW (sq3 x2 y2 z2)).lo.val && true)) = c
  cases c
  · simp only [Bool.not_false, cond_true, w2, w3]
    by_cases hm : (zH (mkW (sq3 x2 y2 z2))).val + 1 >= 1152921504606846976
    · simp only [hm, decide_true, cond_true]
      rw [make_no (by rw [w3];omega)]
    · simp only [hm, decide_false, cond_false]
      rw [zcY (by rw [w1, w3];omega)]
  · simp only [Bool.not_true, cond_false, w2]
    by_cases hm : (zH (mkW (sq3 x2 y2 z2))).val >= 1152921504606846976
    · simp only [hm, decide_true, cond_true]
      rw [make_no (by rw [w2];omega)]
    · simp only [hm, decide_false, cond_false]
      rw [zcY (by rw [w1, w2];omega)]
theorem norm_eq (v : Vec) : F_impl_NormV v = zeE v := Tr.zaR (norm_ok v)
theorem tt_norm_impl (v : Vec) : (t_impl_NormV v).opt = some (F_impl_NormV v) := opt_self (norm_ok v)
end Go.Proofs.YtfcjhkkpbnobhaaGreat.Ev
namespace Go.Proofs.YtfcjhkkpbnobhaaGreat.Ev
open Go
def shr (n e : I64) : I64 := .w .i64 (n.val.fdiv (2 ^ min e.val.toNat 64))
def shl (n e : I64) : I64 := .w .i64 (n.val * (2 ^ min e.val.toNat 64))
def sl (n e : I64) : I64 := shl n (.w .i64 (0 - e.val))
end Go.Proofs.YtfcjhkkpbnobhaaGreat.Ev
namespace Go.Proofs.YtfcjhkkpbnobhaaGreat.Ev
open Go Go.RowKit
set_option maxRecDepth 100000
section
noncomputable def ET_impl_NormV : Ent Tryz.prog := .of1 Tb85 B85 (fun _ => true) F_impl_NormV fun a0 _ => (r_impl_NormV a0).trans (tt_norm_impl a0)
noncomputable def t_spec_l19Known (a0 : Iv) : Tr (T2 Iv I64) :=
  .br (!(zn a0)) (.leaf ⟨⟨⟨0, rfl⟩, ⟨0, rfl⟩⟩, ⟨9, rfl⟩⟩) (.leaf ⟨a0, ⟨0, rfl⟩⟩)
noncomputable def B83 : Bod Tryz.prog := ⟨83, Tryz.f83, Tryz.f83.body.getD .skip, Tryz.func83, by kernel_rfl, by kernel_rfl, zaU.no _ _⟩
noncomputable def Tb83 : Tb Tryz.prog := { T := [Y2, Y30], mix := mix, Es := [zb1], Bs := [], d := 1 }
noncomputable def t_impl_knownI (a0 : Iv) : Tr (T2 Iv I64) :=
  .br (zar a0) (.leaf ⟨⟨⟨0, rfl⟩, ⟨0, rfl⟩⟩, ⟨9, rfl⟩⟩) (.leaf ⟨a0, ⟨0, rfl⟩⟩)
theorem r_impl_knownI (a0 : Iv) : Tb83.run B83 [enc a0] (T2 Iv I64) = (t_impl_knownI a0).opt := by kernel_rfl
noncomputable def zcH : Iv -> T2 Iv I64 := fun a0 => (t_impl_knownI a0).get
theorem u_impl_knownI (a0 : Iv) : (t_impl_knownI a0).opt = some (zcH a0) := Tr.zaB (by kernel_rfl)
noncomputable def E_impl_knownI : Ent Tryz.prog := .of1 Tb83 B83 (fun _ => true) zcH fun a0 _ => (r_impl_knownI a0).trans (u_impl_knownI a0)
noncomputable def t_impl_quarter : Tr (I64) :=
  .leaf (za4 ⟨1, rfl⟩).hi
noncomputable def t_spec_l12Ok (a0 : Ell) : Tr (Bool) :=
  .br (zaG a0.a ⟨1000, rfl⟩ ⟨100000000000, rfl⟩) (.br (zaG a0.den ⟨1, rfl⟩ ⟨1000000000000, rfl⟩) (.br (decide (a0.num.val >= 0)) (.leaf (decide (a0.num.val <= (Rng.w .i64 (a0.den.val.tdiv 100)).val))) (.leaf false)) (.leaf false)) (.leaf false)
noncomputable def F_spec_l12Ok : Ell -> Bool := fun a0 => (t_spec_l12Ok a0).get
noncomputable def t_spec_FlatteningI (a0 : Ell) : Tr (Iv) :=
  .br (!(F_spec_l12Ok a0)) (.leaf zz) (.leaf (zaY a0.num a0.den))
noncomputable def F_spec_FlatteningI : Ell -> Iv := fun a0 => (t_spec_FlatteningI a0).get
noncomputable def t_spec_EccI (a0 : Ell) : Tr (Iv) :=
  let c1 := F_spec_FlatteningI a0;.leaf (z8 c1 (zaa (zC ⟨2, rfl⟩) c1))
noncomputable def B135 : Bod Tryz.prog := ⟨135, Tryz.f135, Tryz.f135.body.getD .skip, Tryz.func135, by kernel_rfl, by kernel_rfl, zaU.no _ _⟩
noncomputable def Tb135 : Tb Tryz.prog := { T := [Y2, Y24, Y30], mix := mix, Es := [zdF, zaI, ET_impl_RadiansOf], Bs := [], d := 1 }
noncomputable def t_impl_LatOf (a0 : zbi) : Tr (Iv) :=
  .br (!(zaL a0)) (.leaf zQ) (.leaf (zd6 a0.lat))
theorem r_impl_LatOf (a0 : zbi) : Tb135.run B135 [enc a0] (Iv) = (t_impl_LatOf a0).opt := by kernel_rfl
noncomputable def F_impl_LatOf : zbi -> Iv := fun a0 => (t_impl_LatOf a0).get
theorem u_impl_LatOf (a0 : zbi) : (t_impl_LatOf a0).opt = some (F_impl_LatOf a0) := Tr.zaB (by kernel_rfl)
noncomputable def E_impl_LatOf : Ent Tryz.prog := .of1 Tb135 B135 (fun _ => true) F_impl_LatOf fun a0 _ => (r_impl_LatOf a0).trans (u_impl_LatOf a0)
noncomputable def B173 : Bod Tryz.prog := ⟨173, Tryz.f173, Tryz.f173.body.getD .skip, Tryz.func173, by kernel_rfl, by kernel_rfl, zaU.no _ _⟩
noncomputable def Tb173 : Tb Tryz.prog := { T := [Y2, Y24, Y30], mix := mix, Es := [zdF, zaI, ET_impl_RadiansOf], Bs := [], d := 1 }
noncomputable def t_impl_LonOf (a0 : zbi) : Tr (Iv) :=
  .br (!(zaL a0)) (.leaf zQ) (.leaf (zd6 a0.lon))
theorem r_impl_LonOf (a0 : zbi) : Tb173.run B173 [enc a0] (Iv) = (t_impl_LonOf a0).opt := by kernel_rfl
noncomputable def F_impl_LonOf : zbi -> Iv := fun a0 => (t_impl_LonOf a0).get
theorem u_impl_LonOf (a0 : zbi) : (t_impl_LonOf a0).opt = some (F_impl_LonOf a0) := Tr.zaB (by kernel_rfl)
noncomputable def E_impl_LonOf : Ent Tryz.prog := .of1 Tb173 B173 (fun _ => true) F_impl_LonOf fun a0 _ => (r_impl_LonOf a0).trans (u_impl_LonOf a0)
noncomputable def B82 : Bod Tryz.prog := ⟨82, Tryz.f82, Tryz.f82.body.getD .skip, Tryz.func82, by kernel_rfl, by kernel_rfl, zaU.no _ _⟩
noncomputable def Tb82 : Tb Tryz.prog := { T := [Y2, Y24, Y30, Y40], mix := mix, Es := [E_impl_SinI, zeH, E_impl_CosI, E_impl_LatOf, E_impl_LonOf], Bs := [], d := 1 }
noncomputable def zfQ (a0 : zbi) : Tr (Vec) :=
  let c1 := F_impl_LatOf a0;let c2 := F_impl_LonOf a0;.leaf ⟨(zav (zfA c1) (zfA c2)), (zav (zfA c1) (F_impl_SinI c2)), (F_impl_SinI c1)⟩
theorem r_impl_vectorOf (a0 : zbi) : Tb82.run B82 [enc a0] (Vec) = (zfQ a0).opt := by kernel_rfl
noncomputable def zG : zbi -> Vec := fun a0 => (zfQ a0).get
theorem u_impl_vectorOf (a0 : zbi) : (zfQ a0).opt = some (zG a0) := Tr.zaB (by kernel_rfl)
noncomputable def E_impl_vectorOf : Ent Tryz.prog := .of1 Tb82 B82 (fun _ => true) zG fun a0 _ => (r_impl_vectorOf a0).trans (u_impl_vectorOf a0)
noncomputable def B81 : Bod Tryz.prog := ⟨81, Tryz.f81, Tryz.f81.body.getD .skip, Tryz.func81, by kernel_rfl, by kernel_rfl, zaU.no _ _⟩
noncomputable def Tb81 : Tb Tryz.prog := { T := [Y2, Y30, Y40], mix := mix, Es := [zeH, zfB], Bs := [], d := 1 }
noncomputable def t_impl_CrossV (a0 : Vec) (a1 : Vec) : Tr (Vec) :=
  .leaf ⟨(zaD (zav a0.y a1.z) (zav a0.z a1.y)), (zaD (zav a0.z a1.x) (zav a0.x a1.z)), (zaD (zav a0.x a1.y) (zav a0.y a1.x))⟩
theorem r_impl_CrossV (a0 : Vec) (a1 : Vec) : Tb81.run B81 [enc a0, enc a1] (Vec) = (t_impl_CrossV a0 a1).opt := by kernel_rfl
noncomputable def zdd : Vec -> Vec -> Vec := fun a0 a1 => (t_impl_CrossV a0 a1).get
theorem u_impl_CrossV (a0 : Vec) (a1 : Vec) : (t_impl_CrossV a0 a1).opt = some (zdd a0 a1) := Tr.zaB (by kernel_rfl)
noncomputable def E_impl_CrossV : Ent Tryz.prog := .of2 Tb81 B81 (fun _ _ => true) zdd fun a0 a1 _ => (r_impl_CrossV a0 a1).trans (u_impl_CrossV a0 a1)
noncomputable def B80 : Bod Tryz.prog := ⟨80, Tryz.f80, Tryz.f80.body.getD .skip, Tryz.func80, by kernel_rfl, by kernel_rfl, zaU.no _ _⟩
noncomputable def Tb80 : Tb Tryz.prog := { T := [Y2, Y30, Y40], mix := mix, Es := [zdT, zeH], Bs := [], d := 1 }
noncomputable def t_impl_DotV (a0 : Vec) (a1 : Vec) : Tr (Iv) :=
  .leaf (zbo (zbo (zav a0.x a1.x) (zav a0.y a1.y)) (zav a0.z a1.z))
theorem r_impl_DotV (a0 : Vec) (a1 : Vec) : Tb80.run B80 [enc a0, enc a1] (Iv) = (t_impl_DotV a0 a1).opt := by kernel_rfl
noncomputable def zdq : Vec -> Vec -> Iv := fun a0 a1 => (t_impl_DotV a0 a1).get
theorem u_impl_DotV (a0 : Vec) (a1 : Vec) : (t_impl_DotV a0 a1).opt = some (zdq a0 a1) := Tr.zaB (by kernel_rfl)
noncomputable def E_impl_DotV : Ent Tryz.prog := .of2 Tb80 B80 (fun _ _ => true) zdq fun a0 a1 _ => (r_impl_DotV a0 a1).trans (u_impl_DotV a0 a1)
noncomputable def Y74 : TyE Tryz.prog := ⟨74, 1, (.slice 24 2), [.nils], false, by kernel_rfl, by kernel_rfl, by kernel_rfl, by kernel_rfl, by kernel_rfl, by kernel_rfl⟩
noncomputable def B77 : Bod Tryz.prog := ⟨77, Tryz.f77, Tryz.f77.body.getD .skip, Tryz.func77, by kernel_rfl, by kernel_rfl, zaU.no _ _⟩
noncomputable def B13 : Bod Tryz.prog := ⟨13, Tryz.f13, Tryz.f13.body.getD .skip, Tryz.func13, by kernel_rfl, by kernel_rfl, zaU.no _ _⟩
noncomputable def Tb13 : Tb Tryz.prog := { T := [Y2, Y24, Y74], mix := mix, Es := [E_impl_LessI, zcP, E_impl_DotV, E_impl_CrossV, E_impl_vectorOf, zdF], Bs := [B77], d := 8 }
noncomputable def t_impl_SideOf (a0 : zbi) (a1 : zbi) (a2 : zbi) : Tr (T2 I64 I64) :=
  .br (!(zaL a0)) (.leaf ⟨⟨0, rfl⟩, ⟨1, rfl⟩⟩) (.br (!(zaL a1)) (.leaf ⟨⟨0, rfl⟩, ⟨1, rfl⟩⟩) (.br (!(zaL a2)) (.leaf ⟨⟨0, rfl⟩, ⟨1, rfl⟩⟩) (.leaf ⟨(F_impl_LessI (zac ⟨0, rfl⟩) (zdq (zdd (zG a0) (zG a1)) (zG a2))), ⟨0, rfl⟩⟩)))
theorem r_impl_SideOf (a0 : zbi) (a1 : zbi) (a2 : zbi) : Tb13.run B13 [enc a0, enc a1, enc a2] (T2 I64 I64) = (t_impl_SideOf a0 a1 a2).opt := by kernel_rfl
noncomputable def zbg : zbi -> zbi -> zbi -> T2 I64 I64 := fun a0 a1 a2 => (t_impl_SideOf a0 a1 a2).get
theorem u_impl_SideOf (a0 : zbi) (a1 : zbi) (a2 : zbi) : (t_impl_SideOf a0 a1 a2).opt = some (zbg a0 a1 a2) := Tr.zaB (by kernel_rfl)
noncomputable def B14 : Bod Tryz.prog := ⟨14, Tryz.f14, Tryz.f14.body.getD .skip, Tryz.func14, by kernel_rfl, by kernel_rfl, zaU.no _ _⟩
noncomputable def Tb14 : Tb Tryz.prog := { T := [Y2, Y24, Y30, Y40, Y74], mix := mix, Es := [E_impl_DotV, E_impl_CrossV, E_impl_vectorOf, E_impl_knownI, E_impl_DirectionI, ET_impl_NormV, zdF], Bs := [B77], d := 8 }
noncomputable def zeO (a0 : zbi) (a1 : zbi) (a2 : zbi) : Tr (T2 Iv I64) :=
  .br (!(zaL a0)) (.leaf ⟨⟨⟨0, rfl⟩, ⟨0, rfl⟩⟩, ⟨1, rfl⟩⟩) (.br (!(zaL a1)) (.leaf ⟨⟨⟨0, rfl⟩, ⟨0, rfl⟩⟩, ⟨1, rfl⟩⟩) (.br (!(zaL a2)) (.leaf ⟨⟨⟨0, rfl⟩, ⟨0, rfl⟩⟩, ⟨1, rfl⟩⟩) (let c6 := zdd (zG a0) (zG a1);let c7 := zG a2;let c12 := zcH (zcV (zdq c6 c7) (F_impl_NormV (zdd c6 c7)));.leaf ⟨c12.a, c12.b⟩)))
theorem r_impl_CrossTrack (a0 : zbi) (a1 : zbi) (a2 : zbi) : Tb14.run B14 [enc a0, enc a1, enc a2] (T2 Iv I64) = (zeO a0 a1 a2).opt := by kernel_rfl
noncomputable def zaM : zbi -> zbi -> zbi -> T2 Iv I64 := fun a0 a1 a2 => (zeO a0 a1 a2).get
theorem u_impl_CrossTrack (a0 : zbi) (a1 : zbi) (a2 : zbi) : (zeO a0 a1 a2).opt = some (zaM a0 a1 a2) := Tr.zaB (by kernel_rfl)
noncomputable def B87 : Bod Tryz.prog := ⟨87, Tryz.f87, Tryz.f87.body.getD .skip, Tryz.func87, by kernel_rfl, by kernel_rfl, zaU.no _ _⟩
noncomputable def Tb87 : Tb Tryz.prog := { T := [Y2, Y30], mix := mix, Es := [zcP, zeH], Bs := [], d := 1 }
noncomputable def t_impl_times (a0 : I64) (a1 : Iv) : Tr (Iv) :=
  .leaf (zav (zac a0) a1)
theorem r_impl_times (a0 : I64) (a1 : Iv) : Tb87.run B87 [enc a0, enc a1] (Iv) = (t_impl_times a0 a1).opt := by kernel_rfl
noncomputable def F_impl_times : I64 -> Iv -> Iv := fun a0 a1 => (t_impl_times a0 a1).get
theorem u_impl_times (a0 : I64) (a1 : Iv) : (t_impl_times a0 a1).opt = some (F_impl_times a0 a1) := Tr.zaB (by kernel_rfl)
noncomputable def E_impl_times : Ent Tryz.prog := .of2 Tb87 B87 (fun _ _ => true) F_impl_times fun a0 a1 _ => (r_impl_times a0 a1).trans (u_impl_times a0 a1)
noncomputable def B15 : Bod Tryz.prog := ⟨15, Tryz.f15, Tryz.f15.body.getD .skip, Tryz.func15, by kernel_rfl, by kernel_rfl, zaU.no _ _⟩
noncomputable def Tb15 : Tb Tryz.prog := { T := [Y2, Y24, Y30, Y40, Y74], mix := mix, Es := [zcP, E_impl_DotV, E_impl_CrossV, E_impl_vectorOf, E_impl_knownI, E_impl_DirectionI, zdT, E_impl_times, zdF], Bs := [B77], d := 8 }
noncomputable def zfT (a0 : zbi) (a1 : zbi) (a2 : zbi) : Tr (T2 Iv I64) :=
  .br (!(zaL a0)) (.leaf ⟨⟨⟨0, rfl⟩, ⟨0, rfl⟩⟩, ⟨1, rfl⟩⟩) (.br (!(zaL a1)) (.leaf ⟨⟨⟨0, rfl⟩, ⟨0, rfl⟩⟩, ⟨1, rfl⟩⟩) (.br (!(zaL a2)) (.leaf ⟨⟨⟨0, rfl⟩, ⟨0, rfl⟩⟩, ⟨1, rfl⟩⟩) (let c4 := zG a0;let c5 := zG a1;let c6 := zG a2;let c18 := zcH (F_impl_times ⟨2, rfl⟩ (zcV (zdq c4 (zdd c5 c6)) (zbo (zbo (zbo (zac ⟨1, rfl⟩) (zdq c4 c5)) (zdq c5 c6)) (zdq c6 c4))));.leaf ⟨c18.a, c18.b⟩)))
theorem r_impl_ExcessOf (a0 : zbi) (a1 : zbi) (a2 : zbi) : Tb15.run B15 [enc a0, enc a1, enc a2] (T2 Iv I64) = (zfT a0 a1 a2).opt := by kernel_rfl
noncomputable def za0 : zbi -> zbi -> zbi -> T2 Iv I64 := fun a0 a1 a2 => (zfT a0 a1 a2).get
theorem u_impl_ExcessOf (a0 : zbi) (a1 : zbi) (a2 : zbi) : (zfT a0 a1 a2).opt = some (za0 a0 a1 a2) := Tr.zaB (by kernel_rfl)
noncomputable def t_spec_CrossV (a0 : Vec) (a1 : Vec) : Tr (Vec) :=
  .leaf ⟨(zaa (z8 a0.y a1.z) (z8 a0.z a1.y)), (zaa (z8 a0.z a1.x) (z8 a0.x a1.z)), (zaa (z8 a0.x a1.y) (z8 a0.y a1.x))⟩
noncomputable def zbw : Vec -> Vec -> Vec := fun a0 a1 => (t_spec_CrossV a0 a1).get
noncomputable def t_spec_DotV (a0 : Vec) (a1 : Vec) : Tr (Iv) :=
  .leaf (zaf (zaf (z8 a0.x a1.x) (z8 a0.y a1.y)) (z8 a0.z a1.z))
noncomputable def zbv : Vec -> Vec -> Iv := fun a0 a1 => (t_spec_DotV a0 a1).get
end
end Go.Proofs.YtfcjhkkpbnobhaaGreat.Ev
namespace Go.Proofs.YtfcjhkkpbnobhaaGreat.Ev
open Go
theorem dot_eq (a b : Vec) : zdq a b = zbv a b := by
  simp only [zdq, t_impl_DotV, zbv, t_spec_DotV, Tr.get, add_eq, mulI_F]
theorem cross_eq (a b : Vec) : zdd a b = zbw a b := by
  simp only [zdd, t_impl_CrossV, zbw, t_spec_CrossV, Tr.get, sub_eq, mulI_F]
theorem lat_eq {p : zbi} (h : zab p = true) : F_impl_LatOf p = zaz p.lat := by
  simp only [F_impl_LatOf, t_impl_LatOf, Tr.get, point_eq, h, Bool.not_true, cfl, radians_eq]
theorem lon_eq {p : zbi} (h : zab p = true) : F_impl_LonOf p = zaz p.lon := by
  simp only [F_impl_LonOf, t_impl_LonOf, Tr.get, point_eq, h, Bool.not_true, cfl, radians_eq]
end Go.Proofs.YtfcjhkkpbnobhaaGreat.Ev
namespace Go.Proofs.YtfcjhkkpbnobhaaGreat.Ev
open Go
end Go.Proofs.YtfcjhkkpbnobhaaGreat.Ev
namespace Go.Proofs.YtfcjhkkpbnobhaaGreat.Ev
open Go
def Sub (a b : Iv) : Prop := zn b = true -> zn a = true /\ b.lo.val <= a.lo.val /\ a.hi.val <= b.hi.val
theorem zfH {x y : I64} (h : (zS x y).b = true) : (zS x y).a.val = x.val * y.val / 4294967296 := by
  simp only [zS, zcQ, Tr.get, mf32] at h ⊢
  cases h1 : zM x
  · rw [h1] at h;simp [ctr] at h
  cases h2 : zM y
  · rw [h1, h2] at h;simp [ctr, cfl] at h
  rw [h1, h2] at h
  simp only [Bool.not_true, cfl] at h ⊢
  unfold narrow at h ⊢
  split at h
  · rename_i hr
    rw [if_pos hr]
    rcases end_cases (.w .i64 (x.val * y.val / 4294967296)) true with e | ⟨e, _⟩
    · rw [e] at h;cases h
    · rw [e];exact wi hr.1 hr.2
  · rename_i hr
    rcases end_cases (.w .i64 0) false with e | ⟨e, _⟩
    · rw [e] at h;cases h
    · have : (zau (.w .i64 0) false).b = false := by simp only [zau, zcE, Tr.get, Bool.not_false, ctr]
      rw [this] at h;cases h
theorem mulup_true {x y : I64} (h : (zal x y).b = true) : (zal x y).a.val = -(-(x.val * y.val) / 4294967296) := by
  simp only [zal, zep, Tr.get] at h ⊢
  cases h1 : zM x
  · rw [h1] at h;simp [ctr] at h
  rw [h1] at h
  simp only [Bool.not_true, cfl] at h ⊢
  have hb := ok_bd h1
  cases hd : (zS (.w .i64 (0 - x.val)) y).b
  · rw [hd] at h;simp [ctr] at h
  simp only [hd, Bool.not_true, cfl]
  have e := zfH hd
  have en : (Rng.w .i64 (0 - x.val)).val = -x.val := by rw [wi (by omega) (by omega)];omega
  rw [en, Int.neg_mul] at e
  rcases zdO (.w .i64 (0 - x.val)) y with k | ⟨c, k, kc⟩
  · rw [k] at hd;cases hd
  · have kb := ok_bd kc
    rw [k] at e ⊢
    simp only at e ⊢
    rw [wi (by omega) (by omega)]
    omega
theorem mulI_corner {a b : Iv} (h : zn (z8 a b) = true) : zn a = true /\ zn b = true /\
    ∀ x y : I64, (x = a.lo \/ x = a.hi) -> (y = b.lo \/ y = b.hi) -> (z8 a b).lo.val <= x.val * y.val / 4294967296 /\ -(-(x.val * y.val) / 4294967296) <= (z8 a b).hi.val := by
  have nw : ∀ {P : Prop}, zn zz = true -> P := fun h => by rw [zbH] at h;cases h
  simp only [z8, t_spec_MulI, Tr.get] at h ⊢
  cases ha : zn a
  · rw [ha] at h;exact nw h
  cases hb : zn b
  · rw [ha, hb] at h;exact nw h
  simp only [ha, hb, Bool.not_true, cfl] at h ⊢
  cases h1 : (zS a.lo b.lo).b
  · rw [h1] at h;exact nw h
  cases h2 : (zal a.lo b.lo).b
  · rw [h1, h2] at h;exact nw h
  cases h3 : (zS a.lo b.hi).b
  · rw [h1, h2, h3] at h;exact nw h
  cases h4 : (zal a.lo b.hi).b
  · rw [h1, h2, h3, h4] at h;exact nw h
  cases h5 : (zS a.hi b.lo).b
  · rw [h1, h2, h3, h4, h5] at h;exact nw h
  cases h6 : (zal a.hi b.lo).b
  · rw [h1, h2, h3, h4, h5, h6] at h;exact nw h
  cases h7 : (zS a.hi b.hi).b
  · rw [h1, h2, h3, h4, h5, h6, h7] at h;exact nw h
  cases h8 : (zal a.hi b.hi).b
  · rw [h1, h2, h3, h4, h5, h6, h7, h8] at h;exact nw h
  simp only [h1, h2, h3, h4, h5, h6, h7, h8, Bool.not_true, cfl] at h ⊢
  refine ⟨trivial, trivial, ?_⟩
  have v1 := zfH h1
  have v2 := mulup_true h2
  have v3 := zfH h3
  have v4 := mulup_true h4
  have v5 := zfH h5
  have v6 := mulup_true h6
  have v7 := zfH h7
  have v8 := mulup_true h8
  generalize (zS a.lo b.lo).a = d1 at *
  generalize (zS a.lo b.hi).a = d2 at *
  generalize (zS a.hi b.lo).a = d3 at *
  generalize (zS a.hi b.hi).a = d4 at *
  generalize (zal a.lo b.lo).a = u1 at *
  generalize (zal a.lo b.hi).a = u2 at *
  generalize (zal a.hi b.lo).a = u3 at *
  generalize (zal a.hi b.hi).a = u4 at *
  have m1 := min_l ⟨1152921504606846976, rfl⟩ d1
  have m2 := min_l (zJ ⟨1152921504606846976, rfl⟩ d1) d2
  have m3 := min_l (zJ (zJ ⟨1152921504606846976, rfl⟩ d1) d2) d3
  have m4 := min_l (zJ (zJ (zJ ⟨1152921504606846976, rfl⟩ d1) d2) d3) d4
  have n1 := zfx ⟨-1152921504606846976, rfl⟩ u1
  have n2 := zfx (zB ⟨-1152921504606846976, rfl⟩ u1) u2
  have n3 := zfx (zB (zB ⟨-1152921504606846976, rfl⟩ u1) u2) u3
  have n4 := zfx (zB (zB (zB ⟨-1152921504606846976, rfl⟩ u1) u2) u3) u4
  generalize zJ (zJ (zJ (zJ ⟨1152921504606846976, rfl⟩ d1) d2) d3) d4 = lo at *
  generalize zB (zB (zB (zB ⟨-1152921504606846976, rfl⟩ u1) u2) u3) u4 = hi at *
  by_cases hm : -1152921504606846976 < lo.val /\ lo.val <= hi.val /\ hi.val < 1152921504606846976
  · rw [zcY hm]
    simp only
    rintro x y (rfl | rfl) (rfl | rfl)
    · omega
    · omega
    · omega
    · omega
  · rw [make_no hm] at h;exact nw h
theorem addI_val {a b : Iv} (h : zn (zaf a b) = true) : zn a = true /\ zn b = true /\ (zaf a b).lo.val = a.lo.val + b.lo.val /\ (zaf a b).hi.val = a.hi.val + b.hi.val := by
  simp only [zaf, t_spec_AddI, Tr.get] at h ⊢
  cases ha : zn a
  · rw [ha] at h;simp only [Bool.not_false, ctr, zbH] at h;cases h
  cases hb : zn b
  · rw [ha, hb] at h;simp only [Bool.not_false, Bool.not_true, ctr, cfl, zbH] at h;cases h
  simp only [ha, hb, Bool.not_true, cfl] at h ⊢
  have ba := (zcc _).1 ha
  have bb := (zcc _).1 hb
  have k1 : (Rng.w .i64 (a.lo.val + b.lo.val)).val = a.lo.val + b.lo.val := wi (by omega) (by omega)
  have k2 : (Rng.w .i64 (a.hi.val + b.hi.val)).val = a.hi.val + b.hi.val := wi (by omega) (by omega)
  by_cases hm : -1152921504606846976 < (Rng.w .i64 (a.lo.val + b.lo.val)).val /\ (Rng.w .i64 (a.lo.val + b.lo.val)).val <= (Rng.w .i64 (a.hi.val + b.hi.val)).val /\ (Rng.w .i64 (a.hi.val + b.hi.val)).val < 1152921504606846976
  · rw [zcY hm];exact ⟨trivial, trivial, k1, k2⟩
  · rw [make_no hm, zbH] at h;cases h
theorem subI_val {a b : Iv} (h : zn (zaa a b) = true) : zn a = true /\ zn b = true /\ (zaa a b).lo.val = a.lo.val - b.hi.val /\ (zaa a b).hi.val = a.hi.val - b.lo.val := by
  simp only [zaa, t_spec_SubI, Tr.get] at h ⊢
  cases ha : zn a
  · rw [ha] at h;simp only [Bool.not_false, ctr, zbH] at h;cases h
  cases hb : zn b
  · rw [ha, hb] at h;simp only [Bool.not_false, Bool.not_true, ctr, cfl, zbH] at h;cases h
  simp only [ha, hb, Bool.not_true, cfl] at h ⊢
  have ba := (zcc _).1 ha
  have bb := (zcc _).1 hb
  have k1 : (Rng.w .i64 (a.lo.val - b.hi.val)).val = a.lo.val - b.hi.val := wi (by omega) (by omega)
  have k2 : (Rng.w .i64 (a.hi.val - b.lo.val)).val = a.hi.val - b.lo.val := wi (by omega) (by omega)
  by_cases hm : -1152921504606846976 < (Rng.w .i64 (a.lo.val - b.hi.val)).val /\ (Rng.w .i64 (a.lo.val - b.hi.val)).val <= (Rng.w .i64 (a.hi.val - b.lo.val)).val /\ (Rng.w .i64 (a.hi.val - b.lo.val)).val < 1152921504606846976
  · rw [zcY hm];exact ⟨trivial, trivial, k1, k2⟩
  · rw [make_no hm, zbH] at h;cases h
theorem dblI_val {a : Iv} (h : zn (zcm a) = true) : zn a = true /\ (zcm a).lo.val = 2 * a.lo.val /\ (zcm a).hi.val = 2 * a.hi.val := by
  simp only [zcm, t_spec_DoubleI, Tr.get] at h ⊢
  cases ha : zn a
  · rw [ha] at h;simp only [Bool.not_false, ctr, zbH] at h;cases h
  simp only [ha, Bool.not_true, cfl] at h ⊢
  have ba := (zcc _).1 ha
  have k1 : (Rng.w .i64 (2 * a.lo.val)).val = 2 * a.lo.val := wi (by omega) (by omega)
  have k2 : (Rng.w .i64 (2 * a.hi.val)).val = 2 * a.hi.val := wi (by omega) (by omega)
  by_cases hm : -1152921504606846976 < (Rng.w .i64 (2 * a.lo.val)).val /\ (Rng.w .i64 (2 * a.lo.val)).val <= (Rng.w .i64 (2 * a.hi.val)).val /\ (Rng.w .i64 (2 * a.hi.val)).val < 1152921504606846976
  · rw [zcY hm];exact ⟨trivial, k1, k2⟩
  · rw [make_no hm, zbH] at h;cases h
end Go.Proofs.YtfcjhkkpbnobhaaGreat.Ev
namespace Go.Proofs.YtfcjhkkpbnobhaaGreat.Ev
open Go
theorem sqrI_val {a : Iv} (h : zn (zbG a) = true) : zn a = true /\ (zbG a).lo.val = (zP a).a.val * (zP a).a.val / 4294967296 /\ (zbG a).hi.val = -(-((zP a).b.val * (zP a).b.val) / 4294967296) := by
  have nw : ∀ {P : Prop}, zn zz = true -> P := fun h => by rw [zbH] at h;cases h
  simp only [zbG, t_spec_SqrI, Tr.get] at h ⊢
  cases ha : zn a
  · rw [ha] at h;exact nw h
  simp only [ha, Bool.not_true, cfl] at h ⊢
  cases h1 : (zS (zP a).a (zP a).a).b
  · rw [h1] at h;exact nw h
  cases h2 : (zal (zP a).b (zP a).b).b
  · rw [h1, h2] at h;exact nw h
  simp only [h1, h2, Bool.not_true, cfl] at h ⊢
  have v1 := zfH h1
  have v2 := mulup_true h2
  generalize (zS (zP a).a (zP a).a).a = lo at *
  generalize (zal (zP a).b (zP a).b).a = hi at *
  by_cases hm : -1152921504606846976 < lo.val /\ lo.val <= hi.val /\ hi.val < 1152921504606846976
  · rw [zcY hm];exact ⟨trivial, v1, v2⟩
  · rw [make_no hm] at h;exact nw h
theorem su_val2 (a : I64) (ha : 0 <= a.val /\ a.val <= 1152921504606846976) : ∃ q p : I64, zb6 a = ⟨q, true⟩ /\ zbP a = ⟨p, true⟩ /\ 0 <= q.val /\ q.val <= 70368744177664 /\ q.val * q.val <= a.val * 4294967296 /\ a.val * 4294967296 < (q.val + 1) * (q.val + 1) /\ q.val <= p.val /\ p.val <= q.val + 1 /\ a.val * 4294967296 <= p.val * p.val /\ (q.val < p.val -> q.val * q.val < a.val * 4294967296) := by
  obtain ⟨q, h1, h2, h3, h4, h5, h6⟩ := sd_val a ha
  have e1 : (Rng.w .i64 (q.val + 1)).val = q.val + 1 := wi (by omega) (by omega)
  have hqq := Int.mul_nonneg h3 h3
  have hmf : zaT q q ⟨32, rfl⟩ = ⟨.w .i64 (q.val * q.val / 4294967296), true⟩ := by rw [mf32];exact narrow_ok (by omega) (by omega)
  have hmv : (Rng.w .i64 (q.val * q.val / 4294967296)).val = q.val * q.val / 4294967296 := wi (by omega) (by omega)
  have hmask : (Rng.w .i64 (zbd .and .i64 (Rng.w .i64 (q.val * q.val)).val 4294967295)).val = q.val * q.val % 4294967296 := by rw [and_mask_i, zdv];omega
  by_cases hx : q.val * q.val = a.val * 4294967296
  · refine ⟨q, q, h1, ?_, h3, h4, h5, h6, Int.le_refl _, by omega, by omega, fun h => by omega⟩
    have k1 : (q.val * q.val / 4294967296 != a.val) = false := by simp;omega
    have k2 : (q.val * q.val % 4294967296 != 0) = false := by simp;omega
    simp only [zbP, zb9, Tr.get, sd_G_spec, h1, hmf, hmv, hmask, k1, k2, Bool.not_true, cond_false, cond_true]
  · refine ⟨q, .w .i64 (q.val + 1), h1, ?_, h3, h4, h5, h6, by omega, by omega, by rw [e1];omega, fun h => by omega⟩
    simp only [zbP, zb9, Tr.get, sd_G_spec, h1, hmf, hmv, hmask, Bool.not_true, cond_false, cond_true]
    by_cases k1 : q.val * q.val / 4294967296 = a.val
    · have k2 : (q.val * q.val % 4294967296 != 0) = true := by simp;omega
      have k3 : (q.val * q.val / 4294967296 != a.val) = false := by simp [k1]
      simp only [k2, k3, cond_true, cond_false]
    · have k3 : (q.val * q.val / 4294967296 != a.val) = true := by simp [k1]
      simp only [k3, cond_true]
theorem sqrtI_mk {a : Iv} (ha : zn a = true) (h0 : 0 <= a.lo.val) : zn (zcp a) = true /\ (zcp a).lo = (zb6 a.lo).a /\ (zcp a).hi = (zbP a.hi).a := by
  have hb := (zcc _).1 ha
  obtain ⟨q, p, e1, e2, h1, h2, h3, h4, h5, h6, h7, h8⟩ := su_val2 a.lo (by omega)
  obtain ⟨q', p', e1', e2', h1', h2', h3', h4', h5', h6', h7', h8'⟩ := su_val2 a.hi (by omega)
  have hle : q.val <= p'.val := by
    refine sq_lt h1 (by omega) ?_
    omega
  have hd : decide (a.lo.val < 0) = false := by simp;omega
  have e : zcp a = ⟨q, p'⟩ := by
    simp only [zcp, t_spec_SqrtI, Tr.get, ha, hd, sd_G_spec, su_G_spec, e1, e2', Bool.not_true, cfl, ctr]
    exact zcY (by omega)
  rw [e, e1, e2']
  exact ⟨(zcc _).2 (by simp only;omega), rfl, rfl⟩
theorem sqrtI_nn {a : Iv} (h : zn (zcp a) = true) : zn a = true /\ 0 <= a.lo.val := by
  have nw : ∀ {P : Prop}, zn zz = true -> P := fun h => by rw [zbH] at h;cases h
  simp only [zcp, t_spec_SqrtI, Tr.get] at h
  cases ha : zn a
  · rw [ha] at h;exact nw h
  by_cases h0 : a.lo.val < 0
  · rw [ha, show decide (a.lo.val < 0) = true by simpa using h0] at h;exact nw h
  · exact ⟨rfl, by omega⟩
theorem divdown_true {x y : I64} (hy : 0 < y.val) (h : (zN x y).b = true) : (zN x y).a.val = x.val * 4294967296 / y.val := by
  have z0 : (y.val == 0) = false := by simp;omega
  have z1 : decide (y.val < 0) = false := by simp;omega
  simp only [zN, zbU, Tr.get, zd0, z0, z1, cfl] at h ⊢
  cases h1 : zM x
  · rw [h1] at h;simp [ctr] at h
  cases h2 : zM y
  · rw [h1, h2] at h;simp [ctr, cfl] at h
  rw [h1, h2] at h
  simp only [Bool.not_true, cfl, MD, hy, if_true] at h ⊢
  unfold narrow at h ⊢
  split at h
  · rename_i hr
    rw [if_pos hr]
    rcases end_cases (.w .i64 (x.val * 4294967296 / y.val)) true with e | ⟨e, _⟩
    · rw [e] at h;cases h
    · rw [e];exact wi hr.1 hr.2
  · have : (zau (.w .i64 0) false).b = false := by simp only [zau, zcE, Tr.get, Bool.not_false, ctr]
    rw [this] at h;cases h
theorem divup_true {x y : I64} (hy : 0 < y.val) (h : (zY x y).b = true) : (zY x y).a.val = -(-x.val * 4294967296 / y.val) := by
  simp only [zY, zdw, Tr.get] at h ⊢
  cases h1 : zM x
  · rw [h1] at h;simp [ctr] at h
  rw [h1] at h
  simp only [Bool.not_true, cfl] at h ⊢
  have hb := ok_bd h1
  have e := divdown_true hy h
  have en : (Rng.w .i64 (0 - x.val)).val = -x.val := by rw [wi (by omega) (by omega)];omega
  rw [en] at e
  rcases zdQ (.w .i64 (0 - x.val)) y with k | ⟨c, k, kc⟩
  · rw [k] at h;cases h
  · have kb := ok_bd kc
    rw [k] at e ⊢
    simp only at e ⊢
    rw [wi (by omega) (by omega)]
    omega
theorem divI_corner {a b : Iv} (h0 : 0 < b.lo.val) (h : zn (zL a b) = true) : zn a = true /\ zn b = true /\
    ∀ x y : I64, (x = a.lo \/ x = a.hi) -> (y = b.lo \/ y = b.hi) -> (zL a b).lo.val <= x.val * 4294967296 / y.val /\ -(-x.val * 4294967296 / y.val) <= (zL a b).hi.val := by
  have nw : ∀ {P : Prop}, zn zz = true -> P := fun h => by rw [zbH] at h;cases h
  simp only [zL, t_spec_DivI, Tr.get] at h ⊢
  cases ha : zn a
  · rw [ha] at h;exact nw h
  cases hb : zn b
  · rw [ha, hb] at h;exact nw h
  have bb := (zcc _).1 hb
  have h0' : 0 < b.hi.val := by omega
  cases hz : zaH b ⟨0, rfl⟩
  case true => rw [ha, hb, hz] at h;exact nw h
  simp only [ha, hb, hz, Bool.not_true, cfl] at h ⊢
  cases h1 : (zN a.lo b.lo).b
  · rw [h1] at h;exact nw h
  cases h2 : (zY a.lo b.lo).b
  · rw [h1, h2] at h;exact nw h
  cases h3 : (zN a.lo b.hi).b
  · rw [h1, h2, h3] at h;exact nw h
  cases h4 : (zY a.lo b.hi).b
  · rw [h1, h2, h3, h4] at h;exact nw h
  cases h5 : (zN a.hi b.lo).b
  · rw [h1, h2, h3, h4, h5] at h;exact nw h
  cases h6 : (zY a.hi b.lo).b
  · rw [h1, h2, h3, h4, h5, h6] at h;exact nw h
  cases h7 : (zN a.hi b.hi).b
  · rw [h1, h2, h3, h4, h5, h6, h7] at h;exact nw h
  cases h8 : (zY a.hi b.hi).b
  · rw [h1, h2, h3, h4, h5, h6, h7, h8] at h;exact nw h
  simp only [h1, h2, h3, h4, h5, h6, h7, h8, Bool.not_true, cfl] at h ⊢
  refine ⟨trivial, trivial, ?_⟩
  have v1 := divdown_true h0 h1
  have v2 := divup_true h0 h2
  have v3 := divdown_true h0' h3
  have v4 := divup_true h0' h4
  have v5 := divdown_true h0 h5
  have v6 := divup_true h0 h6
  have v7 := divdown_true h0' h7
  have v8 := divup_true h0' h8
  generalize (zN a.lo b.lo).a = d1 at *
  generalize (zN a.lo b.hi).a = d2 at *
  generalize (zN a.hi b.lo).a = d3 at *
  generalize (zN a.hi b.hi).a = d4 at *
  generalize (zY a.lo b.lo).a = u1 at *
  generalize (zY a.lo b.hi).a = u2 at *
  generalize (zY a.hi b.lo).a = u3 at *
  generalize (zY a.hi b.hi).a = u4 at *
  have m1 := min_l ⟨1152921504606846976, rfl⟩ d1
  have m2 := min_l (zJ ⟨1152921504606846976, rfl⟩ d1) d2
  have m3 := min_l (zJ (zJ ⟨1152921504606846976, rfl⟩ d1) d2) d3
  have m4 := min_l (zJ (zJ (zJ ⟨1152921504606846976, rfl⟩ d1) d2) d3) d4
  have n1 := zfx ⟨-1152921504606846976, rfl⟩ u1
  have n2 := zfx (zB ⟨-1152921504606846976, rfl⟩ u1) u2
  have n3 := zfx (zB (zB ⟨-1152921504606846976, rfl⟩ u1) u2) u3
  have n4 := zfx (zB (zB (zB ⟨-1152921504606846976, rfl⟩ u1) u2) u3) u4
  generalize zJ (zJ (zJ (zJ ⟨1152921504606846976, rfl⟩ d1) d2) d3) d4 = lo at *
  generalize zB (zB (zB (zB ⟨-1152921504606846976, rfl⟩ u1) u2) u3) u4 = hi at *
  by_cases hm : -1152921504606846976 < lo.val /\ lo.val <= hi.val /\ hi.val < 1152921504606846976
  · rw [zcY hm]
    simp only
    rintro x y (rfl | rfl) (rfl | rfl)
    · omega
    · omega
    · omega
    · omega
  · rw [make_no hm] at h;exact nw h
end Go.Proofs.YtfcjhkkpbnobhaaGreat.Ev
