/-
  Reading places, the program's side: points and places, by the evaluator.
-/
import Derived.Test.YtegdoadciojpaaaGreatDoorT4
import Derived.Test.YtegdoadciojpaaaGreatDoorWP
namespace Go.Proofs.YtegdoadciojpaaaGreatDoor.Ev
open Go Go.RowKit Go.Proofs.YtegdoadciojpaaaGreatDoor.Rq Go.Proofs.YtegdoadciojpaaaGreatDoor.Rt
set_option maxRecDepth 100000
set_option linter.unusedVariables false
set_option linter.unusedSimpArgs false
theorem does_calls {P : Program} (b : Bod P) {xs : List Value} {w : World} {R : Value → World → Prop} (h : Calls P b.id xs.toArray w fun e w' => ∃ x, e = .returned x ∧ R x w') : Does P b.id xs.toArray w R := by
  intro o a next Q hn
  rw [callFunc_enter, Oper.upon_enter]
  refine Calls.mono h fun e w' he => ?_
  obtain ⟨x, rfl, h1⟩ := he
  exact hn x w' h1
theorem vrs_u64 {ρ : Nat → Option Nat} : ∀ {L : List U64} {xs : List Value}, VRs ρ (L.map V.u64) xs → xs = L.map fun x => .int .u64 x.val
  | [], xs, h => by cases h; rfl
  | x :: L, xs, h => by
    cases h with
    | cons h t => cases h; rw [vrs_u64 t]; rfl
theorem ir_of {w : World} (h : Inv0 w) : IR w := by
  obtain ⟨xs, t, h1, h2⟩ := h.1 3 _ rfl
  have row : ∀ g, (g, isErr) ∈ rowsX → ∃ ev, w.cell? ⟨g, 0, none⟩ = some ev ∧ (ev = .nilIface ∨ ∃ te pe, ev = .iface te pe) := fun g hg => by
    obtain ⟨c, t, h1, tp, p, rfl⟩ := h.2 (g, isErr) hg
    exact ⟨.iface tp p, by rw [cell_of_row w g 0 _ t _ h1]; rfl, .inr ⟨_, _, rfl⟩⟩
  refine ⟨?_, ?_, row 1 (by simp [rowsX]), row 2 (by simp [rowsX])⟩
  · unfold Lib.TabIs World.var?
    rw [Rt.gPow]
    simp only [Option.bind_some, h1]
    rw [vrs_u64 h2]
    have e : (pow10s.map fun x => Value.int .u64 x.val) = Lib.pow10Tab.map fun z => Value.int .u64 z := by kernel_rfl
    rw [e]
  · obtain ⟨c, t, h1, m, rfl⟩ := h.2 (0, isInt) (by simp [rowsX])
    exact ⟨m, by rw [cell_of_row w 0 0 _ t _ h1]; rfl⟩
theorem wi {n : Int} (h1 : -9223372036854775808 ≤ n) (h2 : n ≤ 9223372036854775807) : (Rng.w .i64 n).val = n := wrap_inB (by simp only [inB, Bool.and_eq_true, decide_eq_true_eq]; exact ⟨h1, h2⟩)
def gSize (s : ByteArray) : Bool := decide (s.size ≤ 2000000)
noncomputable def c1 (s p : ByteArray) : ByteArray := ⟨(Lib.cut s.data.toList p.data.toList).1.toArray⟩
noncomputable def c2 (s p : ByteArray) : ByteArray := ⟨(Lib.cut s.data.toList p.data.toList).2.1.toArray⟩
noncomputable def c3 (s p : ByteArray) : Bool := (Lib.cut s.data.toList p.data.toList).2.2
noncomputable def B21 : Bod Tryz.prog := ⟨21, Tryz.f21, Tryz.f21.body.getD .skip, Tryz.func21, by kernel_rfl, by kernel_rfl, Loops.no _ _⟩
noncomputable def E_Cut : Ent Tryz.prog where
  id := 21
  g := fun vs _ => match vs with
    | [.str s, .str _] => gSize s
    | _ => false
  fn := fun vs _ => match vs with
    | [.str s, .str p] => some (.tup [.str (c1 s p), .str (c2 s p), .bool (c3 s p)])
    | _ => none
  ok := fun vs m v hg hf w0 ρ xs w hv hm => by
    split at hf <;> try (cases hf; done)
    rename_i s p
    cases hf
    have hs : s.size ≤ 2000000 := by simpa [gSize] using hg
    cases hv with
    | cons h1 t => cases t with
      | cons h2 t => cases t; cases h1; cases h2
                     refine does_calls B21 ((cut_calls s w (ir_of hm.invw) hs p).mono fun e w' he => ?_)
                     obtain ⟨rfl, hb⟩ := he
                     exact ⟨_, rfl, .tup (.cons (.str _) (.cons (.str _) (.cons (.bool _) .nil))), hb⟩
theorem dgR_bd (s : ByteArray) : -10000000000000000 ≤ (dgR s).getD 0 ∧ (dgR s).getD 0 ≤ 10000000000000000 := by
  cases h : dgR s with
  | none => exact ⟨by decide, by decide⟩
  | some n =>
    have := (dgR_some h).2
    simp only [Option.getD_some]
    omega
noncomputable def dgI (s : ByteArray) : I64 := .w .i64 ((dgR s).getD 0)
noncomputable def dgB (s : ByteArray) : Bool := (dgR s).isSome
theorem dgI_val (s : ByteArray) : (dgI s).val = (dgR s).getD 0 := wi (by have := dgR_bd s; omega) (by have := dgR_bd s; omega)
noncomputable def B22 : Bod Tryz.prog := ⟨22, Tryz.f22, Tryz.f22.body.getD .skip, Tryz.func22, by kernel_rfl, by kernel_rfl, Loops.no _ _⟩
noncomputable def E_readDegrees : Ent Tryz.prog where
  id := 22
  g := fun vs _ => match vs with
    | [.str s] => gSize s
    | _ => false
  fn := fun vs _ => match vs with
    | [.str s] => some (.tup [.i64 (dgI s), .bool (dgB s)])
    | _ => none
  ok := fun vs m v hg hf w0 ρ xs w hv hm => by
    split at hf <;> try (cases hf; done)
    rename_i s
    cases hf
    have hs : s.size ≤ 2000000 := by simpa [gSize] using hg
    cases hv with
    | cons h1 t => cases t; cases h1
                   refine does_calls B22 ((rdeg_fn s w (ir_of hm.invw) hs).mono fun e w' he => ?_)
                   obtain ⟨rfl, hb⟩ := he
                   refine ⟨_, rfl, ?_, hb⟩
                   rw [← dgI_val]
                   exact .tup (.cons (.i64 _) (.cons (.bool _) .nil))
def rdI (s : ByteArray) : I64 := .w .i64 (rdV s)
theorem rdI_val (s : ByteArray) : (rdI s).val = rdV s := wi (rdV_bd s).1 (rdV_bd s).2
noncomputable def B13 : Bod Tryz.prog := ⟨13, Tryz.f13, Tryz.f13.body.getD .skip, Tryz.func13, by kernel_rfl, by kernel_rfl, Loops.no _ _⟩
noncomputable def E_ReadDecimal : Ent Tryz.prog where
  id := 13
  g := fun vs _ => match vs with
    | [.str s] => gSize s
    | _ => false
  fn := fun vs _ => match vs with
    | [.str s] => some (.tup [.i64 (rdI s), .bool (rdB s)])
    | _ => none
  ok := fun vs m v hg hf w0 ρ xs w hv hm => by
    split at hf <;> try (cases hf; done)
    rename_i s
    cases hf
    have hs : s.size ≤ 2000000 := by simpa [gSize] using hg
    cases hv with
    | cons h1 t => cases t; cases h1
                   refine does_calls B13 ((rd_calls s w (ir_of hm.invw) hs).mono fun e w' he => ?_)
                   obtain ⟨rfl, hb⟩ := he
                   refine ⟨_, rfl, ?_, hb⟩
                   rw [← rdI_val]
                   exact .tup (.cons (.i64 _) (.cons (.bool _) .nil))
noncomputable def liI (s : ByteArray) (c : Rng .u8) : I64 := .w .i64 (Lib.lastIndexByte s c.val)
noncomputable def B11 : Bod Tryz.prog := ⟨11, Tryz.f11, Tryz.f11.body.getD .skip, Tryz.func11, by kernel_rfl, by kernel_rfl, Loops.no _ _⟩
theorem liI_val (s : ByteArray) (c : Rng .u8) (h : s.size ≤ 2000000) : (liI s c).val = Lib.lastIndexByte s c.val := by
  refine wi ?_ ?_
  · rcases Lib.lastIndexByte_spec s c.val with k | ⟨i, k1, k2, _⟩ <;> omega
  · rcases Lib.lastIndexByte_spec s c.val with k | ⟨i, k1, k2, _⟩ <;> omega
noncomputable def E_Last : Ent Tryz.prog where
  id := 11
  g := fun vs _ => match vs with
    | [.str s, .u8 _] => gSize s
    | _ => false
  fn := fun vs _ => match vs with
    | [.str s, .u8 c] => some (.i64 (liI s c))
    | _ => none
  ok := fun vs m v hg hf w0 ρ xs w hv hm => by
    split at hf <;> try (cases hf; done)
    rename_i s c
    cases hf
    have hs : s.size ≤ 2000000 := by simpa [gSize] using hg
    cases hv with
    | cons h1 t => cases t with
      | cons h2 t => cases t; cases h1; cases h2
                     refine does_calls B11 ((Tryz.strings_LastIndexByte s c.val (by omega) w).mono fun e w' he => ?_)
                     obtain ⟨rfl, rfl⟩ := he
                     refine ⟨_, rfl, ?_, Below.refl _ _⟩
                     rw [← liI_val s c hs]
                     exact .i64 _
noncomputable def Y3 : TyE Tryz.prog := ⟨3, 1, (.int .i64), [.i64 ⟨0, rfl⟩], false, by kernel_rfl, by kernel_rfl, by kernel_rfl, by kernel_rfl, by kernel_rfl, by kernel_rfl⟩
noncomputable def Y4 : TyE Tryz.prog := ⟨4, 1, .bool, [.bool false], false, by kernel_rfl, by kernel_rfl, by kernel_rfl, by kernel_rfl, by kernel_rfl, by kernel_rfl⟩
noncomputable def Y9 : TyE Tryz.prog := ⟨9, 1, .str, [.str ByteArray.empty], false, by kernel_rfl, by kernel_rfl, by kernel_rfl, by kernel_rfl, by kernel_rfl, by kernel_rfl⟩
noncomputable def B12 : Bod Tryz.prog := ⟨12, Tryz.f12, Tryz.f12.body.getD .skip, Tryz.func12, by kernel_rfl, by kernel_rfl, Loops.no _ _⟩
noncomputable def Tb12 : Tb Tryz.prog := { T := [Y2, Y3, Y4, Y9, Y23], mix := mix, Es := [E_Cut, E_readDegrees, E_impl_ValidPoint], Bs := [], d := 1 }
def bl : ByteArray := ⟨#[32]⟩
def pt0 : Point := ⟨⟨0, rfl⟩, ⟨0, rfl⟩⟩
noncomputable def ptOf (s : ByteArray) : Point := ⟨dgI (c1 s bl), dgI (c2 s bl)⟩
theorem r12 (s : ByteArray) : Tb12.run B12 [enc s] (T2 Point Bool) = bif gSize s then (bif gSize (c1 s bl) then (bif gSize (c2 s bl) then
  (bif !(dgB (c1 s bl)) then some ⟨pt0, false⟩ else bif !(dgB (c2 s bl)) then some ⟨pt0, false⟩ else bif !(F_impl_ValidPoint (ptOf s)) then some ⟨pt0, false⟩ else some ⟨ptOf s, true⟩) else none) else none) else none := by kernel_rfl
end Go.Proofs.YtegdoadciojpaaaGreatDoor.Ev
