/-
  The walk of circleHull.
-/
import Derived.Test.YtcfflflcbacapaaGreatPE
namespace Go.Proofs.YtcfflflcbacapaaGreat.Ev
open Go Go.RowKit
set_option maxRecDepth 100000
set_option linter.unusedSimpArgs false
set_option linter.unusedVariables false

noncomputable def TbH : Tb Tryz.prog := { T := [Y2, Y27], mix := mix, Es := [E_impl_areAngles, E_impl_ring, E_impl_circleValue, E_impl_HullI, E_impl_Integer], N := 1 }
noncomputable def BH : Bod Tryz.prog := ⟨178, Tryz.f178, Tryz.f178.body.getD .skip, Tryz.func178, by kernel_rfl, by kernel_rfl, Loops.no _ _⟩
noncomputable def H0 : Code := sL BH.code
noncomputable def H1 : Code := sL (sR BH.code)
noncomputable def H3 : Code := sL (sR (sR BH.code))
noncomputable def H4 : Code := sL (sL (sR (sR (sR BH.code))))
noncomputable def HL : Code := unl (unb (sR (sL (sR (sR (sR BH.code))))))
noncomputable def H13 : Code := sR (sR (sR (sR BH.code)))
theorem BH_eq : BH.code = H0.seq (H1.seq (H3.seq ((H4.seq (.block 0 (.loop HL))).seq H13))) := by kernel_rfl
noncomputable def H5 : Code := sL HL
noncomputable def H6 : Code := sL (unb (sL (sR (sR HL))))
noncomputable def H7 : Code := sR (unb (sL (sR (sR HL))))
noncomputable def H12 : Code := sR (sR (sR HL))
theorem HL_eq : HL = H5.seq ((Code.cond (.tmp 25) .skip (.exit 0)).seq ((Code.block 1 (H6.seq H7)).seq H12)) := by kernel_rfl
noncomputable def oA (i : Nat) : Oper := (opsL H4).getD i default
theorem H4_eq : H4 = .region 4 [oA 0, oA 1, oA 2, oA 3].toArray false := by kernel_rfl
noncomputable def oB (i : Nat) : Oper := (opsL H6).getD i default
theorem H6_eq : H6 = .region 6 [oB 0, oB 1, oB 2].toArray false := by kernel_rfl
theorem oA_0 : (oA 0).guard = none ∧ (oA 0).dst = some 21 := ⟨by kernel_rfl, by kernel_rfl⟩
theorem oA_1 : (oA 1).guard = none ∧ (oA 1).op = .call { callee := .value (.func 246), args := #[.tmp 21], argTypes := #[27] } ∧ (oA 1).dst = some 22 := ⟨by kernel_rfl, by kernel_rfl, by kernel_rfl⟩
theorem oA_2 : (oA 2).guard = none ∧ (oA 2).op = .call { callee := .builtin .len, args := #[.tmp 22], argTypes := #[110] } ∧ (oA 2).dst = some 23 := ⟨by kernel_rfl, by kernel_rfl, by kernel_rfl⟩
theorem oA_3 : (oA 3).guard = none ∧ (oA 3).op = .move (.const (.int .i64 0)) ∧ (oA 3).dst = some 24 := ⟨by kernel_rfl, by kernel_rfl, by kernel_rfl⟩
theorem oB_0 : (oB 0).guard = none ∧ (oB 0).op = .indexAddr 110 (.tmp 22) (.tmp 24) ∧ (oB 0).dst = some 26 := ⟨by kernel_rfl, by kernel_rfl, by kernel_rfl⟩
theorem oB_1 : (oB 1).guard = none ∧ (oB 1).op = .load 2 (.tmp 26) ∧ (oB 1).dst = some 27 := ⟨by kernel_rfl, by kernel_rfl, by kernel_rfl⟩
theorem oB_2 : (oB 2).guard = none ∧ (oB 2).op = .assign (.tmp 27) ∧ (oB 2).dst = some 7 := ⟨by kernel_rfl, by kernel_rfl, by kernel_rfl⟩

noncomputable def o0 (x : Iv) (t : I64) : Iv := F_impl_HullI (F_impl_circleValue x.lo t) (F_impl_circleValue x.hi t)
def cellsI (x : Iv) : List V := [.i64 x.lo, .i64 x.hi]
def zI : Iv := ⟨⟨0, rfl⟩, ⟨0, rfl⟩⟩
def s1H (x : Iv) (t : I64) (z : Iv) : St := ⟨[(1, .i64 t), (2, .ptr 0 0), (4, .ptr 1 0)], 44, ⟨[(0, cellsI x), (1, cellsI z)], 2, 0⟩⟩
def s3H (x : Iv) (t : I64) (o : Iv) : St := ⟨[(1, .i64 t), (2, .ptr 0 0), (4, .ptr 1 0), (5, .ptr 2 0)], 44, ⟨[(0, cellsI x), (1, cellsI zI), (2, cellsI o)], 3, 0⟩⟩
theorem q_0 (x : Iv) (t : I64) : Piece TbH H0 [1, 2, 4] [0, 1] ⟨zipF 0 [enc x, enc t], 44, ⟨[], 0, 0⟩⟩ = some (.norm, s1H x t zI) := by kernel_rfl
theorem q_1 (x : Iv) (t : I64) : Piece TbH H1 [1, 2, 4] [0, 1] (s1H x t zI) = bif !(F_impl_areAngles x) then some (.ret, s1H x t F_impl_ring) else some (.norm, s1H x t zI) := by kernel_rfl
theorem q_3 (x : Iv) (t : I64) : Piece TbH H3 [1, 2, 4, 5] [0, 1, 2] (s1H x t zI) = some (.norm, s3H x t (o0 x t)) := by kernel_rfl
theorem q_4 (x : Iv) (t : I64) : opk (A := V × Mem) TbH.T (callk TbH.T (fun _ => TbH.drw) TbH.Es TbH.Bs TbH.N TbH.d) (s3H x t (o0 x t)) (oA 0) (fun v m => some (v, m)) = some (enc x, (s3H x t (o0 x t)).mm) := by kernel_rfl

/-- The list's block, and what stands for the list. -/
inductive Fr : List Nat → List (Nat × List V) → V → Prop
  | nil : Fr [2, 1] [] .nils
  | slc (n c : Nat) (cs : List V) : Fr [2, 1, 3] [(3, cs)] (.slc 3 0 n c)
def sH (t : I64) (o : Iv) (n i : I64) (tl : List (Nat × List V)) (LV : V) (ex : List (Nat × V)) : St := ⟨ex ++ [(1, .i64 t), (4, .ptr 1 0), (5, .ptr 2 0), (22, LV), (23, .i64 n), (24, .i64 i)], 44, ⟨(2, cellsI o) :: (1, cellsI zI) :: tl, 4, 0⟩⟩
theorem q_5 {t : I64} {o : Iv} {n i : I64} {bl : List Nat} {tl : List (Nat × List V)} {LV : V} (h : Fr bl tl LV) :
    Piece TbH H5 [25, 1, 4, 5, 22, 23, 24] bl (sH t o n i tl LV []) = some (.norm, sH t o n i tl LV [(25, .bool (decide (i.val < n.val)))]) := by cases h <;> kernel_rfl
noncomputable def turn4 (t k : I64) : I64 := .w .i64 (bitop .and .i64 (Rng.w .i64 (k.val + t.val)).val 3)
theorem q_7 {t : I64} {o : Iv} {n i k : I64} {bl : List Nat} {tl : List (Nat × List V)} {LV : V} (h : Fr bl tl LV) :
    Piece TbH H7 [1, 4, 5, 22, 23, 24] bl (sH t o n i tl LV [(7, .i64 k)]) = bif (turn4 t k).val == 1 then some (.norm, sH t (F_impl_HullI o (F_impl_Integer ⟨1, rfl⟩)) n i tl LV []) else
      bif (turn4 t k).val == 3 then some (.norm, sH t (F_impl_HullI o (F_impl_Integer ⟨-1, rfl⟩)) n i tl LV []) else some (.norm, sH t o n i tl LV []) := by cases h <;> kernel_rfl
theorem q_12 {t : I64} {o : Iv} {n i : I64} {bl : List Nat} {tl : List (Nat × List V)} {LV : V} (h : Fr bl tl LV) :
    Piece TbH H12 [1, 4, 5, 22, 23, 24] bl (sH t o n i tl LV []) = some (.norm, sH t o n (.w .i64 (i.val + 1)) tl LV []) := by cases h <;> kernel_rfl
theorem q_13 {t : I64} {o : Iv} {n i : I64} {bl : List Nat} {tl : List (Nat × List V)} {LV : V} (h : Fr bl tl LV) :
    Piece TbH H13 [4] [1] (sH t o n i tl LV []) = some (.ret, ⟨[(4, .ptr 1 0)], 44, ⟨[(1, cellsI o)], 4, 0⟩⟩) := by cases h <;> kernel_rfl
end Go.Proofs.YtcfflflcbacapaaGreat.Ev
