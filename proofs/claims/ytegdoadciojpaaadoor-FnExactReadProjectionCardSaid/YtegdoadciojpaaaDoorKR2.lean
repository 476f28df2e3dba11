/-
  ReadProjection on the program's side, where the text has five words: by the evaluator.
-/
import Derived.Test.YtegdoadciojpaaaDoorKN
namespace Go.Proofs.YtegdoadciojpaaaDoor.Ev
open Go Go.RowKit
set_option maxRecDepth 100000
set_option linter.unusedVariables false
set_option linter.unusedSimpArgs false
theorem eqStr_to {a b : ByteArray} (h : eqStr a b = true) : a = b := by
  unfold eqStr at h
  have k := eq_of_beq h
  exact Go.WideShapes.bytes_inj (by first | exact k | rw [← ByteArray.toList_eq, ← ByteArray.toList_eq]; exact k)
theorem rdV_bd (s : ByteArray) : -9223372036854775808 ≤ rdV s ∧ rdV s ≤ 9223372036854775807 := by
  unfold rdV numL
  cases h : Lib.atoiAll s.data.toList
  · rename_i v
    have := Lib.atoiAll_bounds h
    simp only
    split
    · rename_i x e
      split at e
      · cases e; omega
      · cases e
    · omega
  · simp
  · simp
def rdI (s : ByteArray) : I64 := .w .i64 (rdV s)
theorem rdI_val (s : ByteArray) : (rdI s).val = rdV s := wi (rdV_bd s).1 (rdV_bd s).2
noncomputable def B38 : Bod Tryd.prog := ⟨38, Tryd.f38, Tryd.f38.body.getD .skip, Tryd.func38, by kernel_rfl, by kernel_rfl, Loops.no _ _⟩
noncomputable def E_ReadDecimal : Ent Tryd.prog where
  id := 38
  g := fun vs _ => match vs with
    | [.str s] => decide (s.size ≤ 2000000)
    | _ => false
  fn := fun vs _ => match vs with
    | [.str s] => some (.tup [.i64 (rdI s), .bool (rdB s)])
    | _ => none
  ok := fun vs m v hg hf w0 ρ xs w hv hm => by
    split at hf <;> try (cases hf; done)
    rename_i s
    cases hf
    have hs : s.size ≤ 2000000 := by simpa using hg
    cases hv with
    | cons h1 t => cases t; cases h1
                   refine does_calls B38 ((rd_calls s w hm.invw hs).mono fun e w' he => ?_)
                   obtain ⟨rfl, hb⟩ := he
                   refine ⟨_, rfl, ?_, hb⟩
                   rw [← rdI_val]
                   exact .tup (.cons (.i64 _) (.cons (.bool _) .nil))
/-- The words of a text. -/
def wds (s : ByteArray) : List ByteArray := Lib.splitB ⟨#[32]⟩ 0 (Lib.countB s ⟨#[32]⟩) s
def wd (s : ByteArray) (i : Nat) : ByteArray := (wds s).getD i ByteArray.empty
theorem wds_len (s : ByteArray) : (wds s).length = Lib.countB s ⟨#[32]⟩ + 1 := Lib.splitB_all _ (by decide) 0 _ s rfl
theorem wds_five {s : ByteArray} (h : (wds s).length = 5) : wds s = [wd s 0, wd s 1, wd s 2, wd s 3, wd s 4] := by
  unfold wd
  generalize wds s = L at *
  match L, h with
  | [a, b, c, d, e], _ => rfl
theorem max_of {w : World} (h : Inv0 w) : ∃ m : Int, w.cell? ⟨2, 0, none⟩ = some (.int .i64 m) := by
  obtain ⟨c, t, h1, m, rfl⟩ := h.2 (2, isInt) (by simp [rowsX])
  exact ⟨m, by rw [cell_of_row w 2 0 _ t _ h1]; rfl⟩
theorem split_calls (s : ByteArray) (w : World) (hI : Inv0 w) (hs : s.size ≤ 2000000) : Calls Tryd.prog 37 #[.string s, .string ⟨#[32]⟩] w fun e w' =>
    e = .returned (.slice (some ⟨w.heap.size, 0, none⟩) (wds s).length (wds s).length) ∧ w' = w.alloc (.cells ((wds s).map Value.string).toArray 9) := by
  obtain ⟨m, hm⟩ := max_of hI
  rw [wds_len]
  exact Tryd.strings_Split s ⟨#[32]⟩ m w (by omega) hm (by decide)
noncomputable def B37 : Bod Tryd.prog := ⟨37, Tryd.f37, Tryd.f37.body.getD .skip, Tryd.func37, by kernel_rfl, by kernel_rfl, Loops.no _ _⟩
def gFive (s p : ByteArray) : Bool := decide (s.size ≤ 2000000) && (eqStr p ⟨#[32]⟩ && decide ((wds s).length = 5))
noncomputable def E_Split : Ent Tryd.prog where
  id := 37
  g := fun _ _ => false
  fn := fun _ _ => none
  ok := fun vs m v hg hf => by cases hf
  nsl := fun vs _ => match vs with
    | [.str s, .str p] => some (gFive s p, [.str (wd s 0), .str (wd s 1), .str (wd s 2), .str (wd s 3), .str (wd s 4)])
    | _ => none
  nslok := fun vs m cs h w0 ρ xs w hv hm => by
    split at h <;> try (cases h; done)
    rename_i s p
    simp only [Option.some.injEq, Prod.mk.injEq] at h
    obtain ⟨hg, rfl⟩ := h
    simp only [gFive, Bool.and_eq_true, decide_eq_true_eq] at hg
    obtain ⟨hs, hp, hl⟩ := hg
    obtain rfl : p = ⟨#[32]⟩ := eqStr_to hp
    refine ⟨(wds s).map Value.string, 9, ?_, ?_⟩
    · rw [wds_five hl]; exact vrs_str ρ [wd s 0, wd s 1, wd s 2, wd s 3, wd s 4]
    · cases hv with
      | cons h1 t => cases t with
        | cons h2 t => cases t; cases h1; cases h2
                       refine does_calls B37 ((split_calls s w hm.invw hs).mono fun e w' he => ?_)
                       obtain ⟨rfl, rfl⟩ := he
                       exact ⟨_, rfl, by rw [hl]; rfl, rfl⟩
def pjW (s : ByteArray) : Proj := ⟨kindOf (wd s 0), rdI (wd s 1), rdI (wd s 2), rdI (wd s 3), rdI (wd s 4)⟩
def p0 : Proj := ⟨⟨0, rfl⟩, ⟨0, rfl⟩, ⟨0, rfl⟩, ⟨0, rfl⟩, ⟨0, rfl⟩⟩
noncomputable def Y62 : TyE Tryd.prog := ⟨62, 4, (.array 4 2 1), (List.replicate 4 (.i64 ⟨0, rfl⟩)), false, by kernel_rfl, by kernel_rfl, by kernel_rfl, by kernel_rfl, by kernel_rfl, by kernel_rfl⟩
noncomputable def B19 : Bod Tryd.prog := ⟨19, Tryd.f19, Tryd.f19.body.getD .skip, Tryd.func19, by kernel_rfl, by kernel_rfl, Loops.no _ _⟩
noncomputable def Tb19 : Tb Tryd.prog := { T := [Y2, Y3, Y9, Y29, Y46, Y62], mix := mix, Es := [E_Split, E_ReadDecimal, E_impl_ProjectionNamed, E_impl_ValidProjection, E_projectionText], Bs := [], d := 1 }
def gSz (s : ByteArray) (i : Nat) : Bool := decide ((wd s i).size ≤ 2000000)
theorem r19 (s : ByteArray) : Tb19.run B19 [enc s] (T2 Proj Bool) = bif gFive s ⟨#[32]⟩ then (bif gSz s 1 then (bif gSz s 2 then (bif gSz s 3 then (bif gSz s 4 then (bif !(F_impl_ValidProjection (pjW s)) then some ⟨p0, false⟩ else bif kG (pjW s).kind then (bif !(eqStr (txP (pjW s)) s) then some ⟨p0, false⟩ else some ⟨pjW s, true⟩) else none) else none) else none) else none) else none) else none := by kernel_rfl
end Go.Proofs.YtegdoadciojpaaaDoor.Ev
