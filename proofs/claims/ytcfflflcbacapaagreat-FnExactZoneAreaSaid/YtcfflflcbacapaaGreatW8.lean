import Derived.Test.YtcfflflcbacapaaGreatW7
namespace Go.Proofs.YtcfflflcbacapaaGreat.Ev
open Go Go.RowKit
set_option maxRecDepth 100000
set_option linter.unusedVariables false
section
noncomputable def Y86 : TyE Tryz.prog := ⟨86, 1, .func, [.nilf], false, by kernel_rfl, by kernel_rfl, by kernel_rfl, by kernel_rfl, by kernel_rfl, by kernel_rfl⟩
noncomputable def B271 : Bod Tryz.prog := ⟨271, Tryz.f271, Tryz.f271.body.getD .skip, Tryz.func271, by kernel_rfl, by kernel_rfl, Loops.no _ _⟩
noncomputable def Tb271_AtanhI : Tb Tryz.prog := { T := [Y2, Y27, Y86], mix := mix, Es := [E_impl_NegI, E_impl_AtanhI_1], Bs := [], d := 1 }
noncomputable def t_impl_odd_1_AtanhI (a0 : I64) (d0 : FnTag 223) : Tr (Iv) :=
  .br (decide (a0.val < 0)) (.leaf (F_impl_NegI (F_impl_AtanhI_1 (Rng.w .i64 (0 - a0.val))))) (.leaf (F_impl_AtanhI_1 a0))
theorem r_impl_odd_1_AtanhI (a0 : I64) (d0 : FnTag 223) : capRun Tb271_AtanhI B271 [enc a0, .ptr 0 0] [(0, Cap.ec d0)] 1 (Iv) = (t_impl_odd_1_AtanhI a0 d0).opt := by kernel_rfl
noncomputable def F_impl_odd_1_AtanhI : I64 → FnTag 223 → Iv := fun a0 d0 => (t_impl_odd_1_AtanhI a0 d0).get
noncomputable def G_impl_odd_1_AtanhI : I64 → FnTag 223 → Bool := fun a0 d0 => (t_impl_odd_1_AtanhI a0 d0).opt.isSome
theorem u_impl_odd_1_AtanhI (a0 : I64) (d0 : FnTag 223) : (t_impl_odd_1_AtanhI a0 d0).opt = some (F_impl_odd_1_AtanhI a0 d0) := Tr.tot_get (by kernel_rfl)
noncomputable def E_impl_odd_1_AtanhI : Ent Tryz.prog := .cap1 Tb271_AtanhI B271 (fun _ _ => true) F_impl_odd_1_AtanhI fun a0 d0 _ => (r_impl_odd_1_AtanhI a0 d0).trans (u_impl_odd_1_AtanhI a0 d0)
noncomputable def B222 : Bod Tryz.prog := ⟨222, Tryz.f222, Tryz.f222.body.getD .skip, Tryz.func222, by kernel_rfl, by kernel_rfl, Loops.no _ _⟩
noncomputable def B140 : Bod Tryz.prog := ⟨140, Tryz.f140, Tryz.f140.body.getD .skip, Tryz.func140, by kernel_rfl, by kernel_rfl, Loops.no _ _⟩
noncomputable def Tb140 : Tb Tryz.prog := { T := [Y2, Y27], mix := mix, Es := [E_impl_Whole, E_impl_IsWhole, E_impl_areBounded, E_impl_bounded, E_impl_odd_1_AtanhI], Bs := [B221, B222], d := 8 }
noncomputable def t_impl_AtanhI (a0 : Iv) : Tr (Iv) :=
  .br (F_impl_IsWhole a0) (.leaf F_impl_Whole) (let c3 := F_impl_odd_1_AtanhI a0.lo ⟨⟩; let c4 := F_impl_odd_1_AtanhI a0.hi ⟨⟩; .br (!(F_impl_areBounded c3 c4)) (.leaf F_impl_Whole) (.leaf (F_impl_bounded c3.lo c4.hi true)))
theorem r0_impl_AtanhI (a0 : Iv) : twoRun Tb140 B140 [enc a0] [0, 1, 2, 3] (Iv) = (t_impl_AtanhI a0).opt := by kernel_rfl
theorem r1_impl_AtanhI (a0 : Iv) : twoRun Tb140 B140 [enc a0] [1, 0, 2, 3] (Iv) = (t_impl_AtanhI a0).opt := by kernel_rfl
noncomputable def F_impl_AtanhI : Iv → Iv := fun a0 => (t_impl_AtanhI a0).get
noncomputable def G_impl_AtanhI : Iv → Bool := fun a0 => (t_impl_AtanhI a0).opt.isSome
noncomputable def E_impl_AtanhI : Ent Tryz.prog := .two1 Tb140 B140 G_impl_AtanhI F_impl_AtanhI 0 [1, 2, 3] 1 [0, 2, 3] (by unfold twoShape; kernel_rfl) (by kernel_rfl) (by kernel_rfl) (by kernel_rfl) (fun a0 => by kernel_rfl) (fun a0 h => (r0_impl_AtanhI a0).trans (Tr.get_some h)) (fun a0 h => (r1_impl_AtanhI a0).trans (Tr.get_some h))
end
end Go.Proofs.YtcfflflcbacapaaGreat.Ev
