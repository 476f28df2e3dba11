import Derived.Test.YtecfhpgpojgjkaaGreatW3
import Derived.Test.YtecfhpgpojgjkaaGreatP9
namespace Go.Proofs.YtecfhpgpojgjkaaGreat.Ev
open Go Go.RowKit
set_option maxRecDepth 100000
set_option linter.unusedVariables false
section
noncomputable def ET_spec_TurnI : Ent Tryz.prog := .of1 Tb177 B177 (fun _ => true) F_spec_TurnI fun a0 _ => (r_spec_TurnI a0).trans (tt_turnI_spec a0)
noncomputable def ET_impl_TurnI : Ent Tryz.prog := .of1 Tb120 B120 (fun _ => true) F_impl_TurnI fun a0 _ => (r_impl_TurnI a0).trans (tt_turnI_impl a0)
noncomputable def ET_spec_QuarterOf : Ent Tryz.prog := .of1 Tb176 B176 (fun _ => true) F_spec_QuarterOf fun a0 _ => (r_spec_QuarterOf a0).trans (tt_quarter_spec a0)
noncomputable def B293 : Bod Tryz.prog := ⟨293, Tryz.f293, Tryz.f293.body.getD .skip, Tryz.func293, by kernel_rfl, by kernel_rfl, Loops.no _ _⟩
noncomputable def Tb293 : Tb Tryz.prog := { T := [Y2, Y27], mix := mix, Es := [], Bs := [], d := 1 }
noncomputable def t_spec_l05At (a0 : I64) : Tr (Iv) :=
  .leaf ⟨a0, a0⟩
theorem r_spec_l05At (a0 : I64) : Tb293.run B293 [enc a0] (Iv) = (t_spec_l05At a0).opt := by kernel_rfl
noncomputable def F_spec_l05At : I64 → Iv := fun a0 => (t_spec_l05At a0).get
theorem u_spec_l05At (a0 : I64) : (t_spec_l05At a0).opt = some (F_spec_l05At a0) := Tr.tot_get (by kernel_rfl)
noncomputable def E_spec_l05At : Ent Tryz.prog := .of1 Tb293 B293 (fun _ => true) F_spec_l05At fun a0 _ => (r_spec_l05At a0).trans (u_spec_l05At a0)
noncomputable def B264 : Bod Tryz.prog := ⟨264, Tryz.f264, Tryz.f264.body.getD .skip, Tryz.func264, by kernel_rfl, by kernel_rfl, Loops.no _ _⟩
noncomputable def Tb264 : Tb Tryz.prog := { T := [Y2, Y27], mix := mix, Es := [E_spec_l06Ring, E_spec_NegI, E_spec_SubI, ET_spec_QuarterOf, ET_spec_TurnI, E_spec_l06Angle, E_spec_l05At, E_spec_l06Meet, E_spec_SinSeries, E_spec_CosSeries], Bs := [], d := 1 }
noncomputable def t_spec_l06At (a0 : I64) (a1 : I64) : Tr (Iv) :=
  .br (!(F_spec_l06Angle a0)) (.leaf F_spec_l06Ring) (let c3 := F_spec_QuarterOf a0; let c6 := F_spec_SubI (F_spec_l05At a0) (F_spec_TurnI c3); let c8 := (Rng.w .i64 (bitop .and .i64 (Rng.w .i64 (c3.val + a1.val)).val 3)); .br (c8.val == 0) (.leaf (F_spec_l06Meet (F_spec_SinSeries c6))) (.br (c8.val == 1) (.leaf (F_spec_l06Meet (F_spec_CosSeries c6))) (.br (c8.val == 2) (.leaf (F_spec_l06Meet (F_spec_NegI (F_spec_SinSeries c6)))) (.leaf (F_spec_l06Meet (F_spec_NegI (F_spec_CosSeries c6)))))))
theorem r_spec_l06At (a0 : I64) (a1 : I64) : Tb264.run B264 [enc a0, enc a1] (Iv) = (t_spec_l06At a0 a1).opt := by kernel_rfl
noncomputable def F_spec_l06At : I64 → I64 → Iv := fun a0 a1 => (t_spec_l06At a0 a1).get
theorem u_spec_l06At (a0 : I64) (a1 : I64) : (t_spec_l06At a0 a1).opt = some (F_spec_l06At a0 a1) := Tr.tot_get (by kernel_rfl)
noncomputable def E_spec_l06At : Ent Tryz.prog := .of2 Tb264 B264 (fun _ _ => true) F_spec_l06At fun a0 a1 _ => (r_spec_l06At a0 a1).trans (u_spec_l06At a0 a1)
noncomputable def B122 : Bod Tryz.prog := ⟨122, Tryz.f122, Tryz.f122.body.getD .skip, Tryz.func122, by kernel_rfl, by kernel_rfl, Loops.no _ _⟩
noncomputable def Tb122 : Tb Tryz.prog := { T := [Y2, Y27], mix := mix, Es := [], Bs := [], d := 1 }
noncomputable def t_impl_at (a0 : I64) : Tr (Iv) :=
  .leaf ⟨a0, a0⟩
theorem r_impl_at (a0 : I64) : Tb122.run B122 [enc a0] (Iv) = (t_impl_at a0).opt := by kernel_rfl
noncomputable def F_impl_at : I64 → Iv := fun a0 => (t_impl_at a0).get
theorem u_impl_at (a0 : I64) : (t_impl_at a0).opt = some (F_impl_at a0) := Tr.tot_get (by kernel_rfl)
noncomputable def E_impl_at : Ent Tryz.prog := .of1 Tb122 B122 (fun _ => true) F_impl_at fun a0 _ => (r_impl_at a0).trans (u_impl_at a0)
noncomputable def B234 : Bod Tryz.prog := ⟨234, Tryz.f234, Tryz.f234.body.getD .skip, Tryz.func234, by kernel_rfl, by kernel_rfl, Loops.no _ _⟩
noncomputable def Tb234 : Tb Tryz.prog := { T := [Y2, Y27], mix := mix, Es := [E_impl_ring, ET_impl_TurnI, E_impl_at, E_impl_NegI, E_impl_SubI, E_impl_isAngle, E_impl_QuarterOf, E_impl_inRing, E_impl_SinSeries, E_impl_CosSeries], Bs := [], d := 1 }
noncomputable def t_impl_circleValue (a0 : I64) (a1 : I64) : Tr (Iv) :=
  .br (!(F_impl_isAngle a0)) (.leaf F_impl_ring) (let c3 := F_impl_QuarterOf a0; let c6 := F_impl_SubI (F_impl_at a0) (F_impl_TurnI c3); let c8 := (Rng.w .i64 (bitop .and .i64 (Rng.w .i64 (c3.val + a1.val)).val 3)); .br (c8.val == 0) (.leaf (F_impl_inRing (F_impl_SinSeries c6))) (.br (c8.val == 1) (.leaf (F_impl_inRing (F_impl_CosSeries c6))) (.br (c8.val == 2) (.leaf (F_impl_inRing (F_impl_NegI (F_impl_SinSeries c6)))) (.leaf (F_impl_inRing (F_impl_NegI (F_impl_CosSeries c6)))))))
theorem r_impl_circleValue (a0 : I64) (a1 : I64) : Tb234.run B234 [enc a0, enc a1] (Iv) = (t_impl_circleValue a0 a1).opt := by kernel_rfl
noncomputable def F_impl_circleValue : I64 → I64 → Iv := fun a0 a1 => (t_impl_circleValue a0 a1).get
theorem u_impl_circleValue (a0 : I64) (a1 : I64) : (t_impl_circleValue a0 a1).opt = some (F_impl_circleValue a0 a1) := Tr.tot_get (by kernel_rfl)
noncomputable def E_impl_circleValue : Ent Tryz.prog := .of2 Tb234 B234 (fun _ _ => true) F_impl_circleValue fun a0 a1 _ => (r_impl_circleValue a0 a1).trans (u_impl_circleValue a0 a1)
structure S_spec_l06Over_5 where
  x0 : I64
  x1 : I64
  x2 : I64
  x3 : I64
  x4 : I64
  x5 : I64
  x6 : I64
  x7 : I64
instance : Inhabited S_spec_l06Over_5 := ⟨⟨default, default, default, default, default, default, default, default⟩⟩
noncomputable def st_spec_l06Over_5 (x : S_spec_l06Over_5) : St := ⟨[(1, .i64 x.x0), (2, .ptr 0 0), (4, .ptr 1 0), (5, .ptr 2 0), (6, .i64 x.x1)], 52, ⟨[(0, [.i64 x.x2, .i64 x.x3]), (1, [.i64 x.x4, .i64 x.x5]), (2, [.i64 x.x6, .i64 x.x7])], 3, 0⟩⟩
noncomputable def rd_spec_l06Over_5 : St → Option S_spec_l06Over_5 := fun s => match s with
  | ⟨[(1, .i64 x0), (2, .ptr 0 0), (4, .ptr 1 0), (5, .ptr 2 0), (6, .i64 x1)], 52, ⟨[(0, [.i64 x2, .i64 x3]), (1, [.i64 x4, .i64 x5]), (2, [.i64 x6, .i64 x7])], 3, 0⟩⟩ => some ⟨x0, x1, x2, x3, x4, x5, x6, x7⟩
  | _ => none
noncomputable def b_spec_l06Over_5 (x : S_spec_l06Over_5) : Tr (Lp S_spec_l06Over_5) :=
  .br (decide (x.x1.val ≤ (Rng.w .i64 ((F_spec_QuarterOf x.x3).val + 1)).val)) (.br (!(F_spec_OverlapI (F_spec_TurnI x.x1) ⟨x.x2, x.x3⟩)) (.leaf (.again ⟨x.x0, (Rng.w .i64 (x.x1.val + 1)), x.x2, x.x3, x.x4, x.x5, x.x6, x.x7⟩)) (let c15 := (Rng.w .i64 (bitop .and .i64 (Rng.w .i64 (x.x1.val + x.x0.val)).val 3)); .br (c15.val == 1) (let c17 := F_spec_HullI ⟨x.x6, x.x7⟩ (F_spec_Integer ⟨1, rfl⟩); .leaf (.again ⟨x.x0, (Rng.w .i64 (x.x1.val + 1)), x.x2, x.x3, x.x4, x.x5, c17.lo, c17.hi⟩)) (.br (c15.val == 3) (let c20 := F_spec_HullI ⟨x.x6, x.x7⟩ (F_spec_Integer ⟨(-1), rfl⟩); .leaf (.again ⟨x.x0, (Rng.w .i64 (x.x1.val + 1)), x.x2, x.x3, x.x4, x.x5, c20.lo, c20.hi⟩)) (.leaf (.again ⟨x.x0, (Rng.w .i64 (x.x1.val + 1)), x.x2, x.x3, x.x4, x.x5, x.x6, x.x7⟩))))) (.leaf (.out ⟨x.x0, x.x1, x.x2, x.x3, x.x4, x.x5, x.x6, x.x7⟩))
noncomputable def G_spec_l06Over_5 (x : S_spec_l06Over_5) : Bool := (Lf b_spec_l06Over_5 1000 x).opt.isSome
noncomputable def L_spec_l06Over_5 (x : S_spec_l06Over_5) : S_spec_l06Over_5 := (Lf b_spec_l06Over_5 1000 x).get
noncomputable def TbL_spec_l06Over_5 : Tb Tryz.prog := { T := [Y2, Y27], mix := mix, Es := [E_spec_OverlapI, E_spec_Integer, ET_spec_QuarterOf, ET_spec_TurnI, E_spec_HullI], Bs := [], d := 1 }
noncomputable def P_spec_l06Over_5 : LpF := loopF [1, 2, 4, 5, 6] [0, 1, 2] 3 rd_spec_l06Over_5 st_spec_l06Over_5 (.exit 0) G_spec_l06Over_5 L_spec_l06Over_5
theorem lok_spec_l06Over_5 : LoopOk Tryz.prog (loopAt (Tryz.f167.body.getD .skip) 0) P_spec_l06Over_5 := loopF_ok (t := TbL_spec_l06Over_5) (lt := fun _ => none) (body := b_spec_l06Over_5) (n := 1000) (by intro h; cases h) (fun _ _ _ h => by cases h)
  (by intro s x h; unfold rd_spec_l06Over_5 at h; split at h <;> cases h; rfl) (fun x b cs h => lk_lt (l := (st_spec_l06Over_5 x).mm.blks) (by kernel_rfl) h) (by intro x; kernel_rfl) (fun x h => Tr.get_some h)
noncomputable def B167 : Bod Tryz.prog := ⟨167, Tryz.f167, Tryz.f167.body.getD .skip, Tryz.func167, by kernel_rfl, by kernel_rfl, ⟨ltOf [(5, P_spec_l06Over_5)], Loops.of (ks := [5]) (by kernel_rfl) (by
  intro i k h f hf
  match i, h with
  | 0, h => cases h; obtain rfl : P_spec_l06Over_5 = f := Option.some.inj hf; exact lok_spec_l06Over_5
  | n + 1, h => simp at h)⟩⟩
noncomputable def Tb167 : Tb Tryz.prog := { T := [Y2, Y27], mix := mix, Es := [E_spec_l06Ring, E_spec_l06Fits, ET_spec_QuarterOf, E_spec_HullI, E_spec_l06At], Bs := [], d := 1 }
noncomputable def t_spec_l06Over (a0 : Iv) (a1 : I64) : Tr (Iv) :=
  .br (!(F_spec_l06Fits a0)) (.leaf F_spec_l06Ring) (let c5 := F_spec_HullI (F_spec_l06At a0.lo a1) (F_spec_l06At a0.hi a1); let c7 := (Rng.w .i64 ((F_spec_QuarterOf a0.lo).val - 1)); .br (G_spec_l06Over_5 ⟨a1, c7, a0.lo, a0.hi, ⟨0, rfl⟩, ⟨0, rfl⟩, c5.lo, c5.hi⟩) (let c23 := L_spec_l06Over_5 ⟨a1, c7, a0.lo, a0.hi, ⟨0, rfl⟩, ⟨0, rfl⟩, c5.lo, c5.hi⟩; .leaf ⟨c23.x6, c23.x7⟩) (.bad))
theorem r_spec_l06Over (a0 : Iv) (a1 : I64) : Tb167.run B167 [enc a0, enc a1] (Iv) = (t_spec_l06Over a0 a1).opt := by kernel_rfl
noncomputable def F_spec_l06Over : Iv → I64 → Iv := fun a0 a1 => (t_spec_l06Over a0 a1).get
noncomputable def G_spec_l06Over : Iv → I64 → Bool := fun a0 a1 => (t_spec_l06Over a0 a1).opt.isSome
noncomputable def E_spec_l06Over : Ent Tryz.prog := .of2 Tb167 B167 G_spec_l06Over F_spec_l06Over fun a0 a1 h => (r_spec_l06Over a0 a1).trans (Tr.get_some h)
end
end Go.Proofs.YtecfhpgpojgjkaaGreat.Ev
