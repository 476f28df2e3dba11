/-
  The walk of the texts of projections.
-/
import Derived.Test.YtegdoadciojpaaaDoorKP3
import Derived.Tactics
import Derived.WalkKit
namespace Go.Proofs.YtegdoadciojpaaaDoor.Ev
open Go Go.RowKit
set_option maxRecDepth 100000
set_option linter.unusedVariables false
set_option linter.unusedSimpArgs false
noncomputable def Y3 : TyE Tryd.prog := ⟨3, 1, (.int .i64), [.i64 ⟨0, rfl⟩], false, by kernel_rfl, by kernel_rfl, by kernel_rfl, by kernel_rfl, by kernel_rfl, by kernel_rfl⟩
noncomputable def Y9 : TyE Tryd.prog := ⟨9, 1, .str, [.str ByteArray.empty], false, by kernel_rfl, by kernel_rfl, by kernel_rfl, by kernel_rfl, by kernel_rfl, by kernel_rfl⟩
noncomputable def Y46 : TyE Tryd.prog := ⟨46, 1, (.slice 9 1), [.nils], false, by kernel_rfl, by kernel_rfl, by kernel_rfl, by kernel_rfl, by kernel_rfl, by kernel_rfl⟩
noncomputable def Y48 : TyE Tryd.prog := ⟨48, 17, (.array 17 9 1), (List.replicate 17 (.str ByteArray.empty)), false, by kernel_rfl, by kernel_rfl, by kernel_rfl, by kernel_rfl, by kernel_rfl, by kernel_rfl⟩
noncomputable def B34 : Bod Tryd.prog := ⟨34, Tryd.f34, Tryd.f34.body.getD .skip, Tryd.func34, by kernel_rfl, by kernel_rfl, Loops.no _ _⟩
noncomputable def Tb34 : Tb Tryd.prog := { T := [Y2, Y9], mix := mix, Es := [E_FormatInt], Bs := [], d := 1 }
theorem r34 (n : I64) : Tb34.run B34 [enc n] ByteArray = some (decB n) := by kernel_rfl
noncomputable def E_Decimal : Ent Tryd.prog := .of1 Tb34 B34 (fun _ => true) decB fun n _ => r34 n

theorem names_calls (w : World) : Calls Tryd.prog 22 #[] w fun e w' => e = .returned (.slice (some ⟨w.heap.size, 0, none⟩) 17 17) ∧ w' = w.alloc (.cells (names.map Value.string).toArray 9 (0, 0)) := by
  go_enter Tryd.func22, Tryd.ntmps22
  go_wp2
  go_ret
  exact ⟨rfl, rfl⟩
noncomputable def B22 : Bod Tryd.prog := ⟨22, Tryd.f22, Tryd.f22.body.getD .skip, Tryd.func22, by kernel_rfl, by kernel_rfl, Loops.no _ _⟩
theorem vrs_str (ρ : Nat → Option Nat) : ∀ L : List ByteArray, VRs ρ (L.map V.str) (L.map Value.string)
  | [] => .nil
  | s :: L => .cons (.str s) (vrs_str ρ L)
noncomputable def E_l17Names : Ent Tryd.prog where
  id := 22
  g := fun _ _ => false
  fn := fun _ _ => none
  ok := fun vs m v hg hf => by cases hf
  made := some (17, names.map V.str)
  mkok := fun q cs h => by
    cases h
    refine ⟨names.map Value.string, 9, fun ρ => vrs_str ρ _, fun w => ?_⟩
    exact does_calls B22 (xs := []) ((names_calls w).mono fun e w' he => by obtain ⟨rfl, rfl⟩ := he; exact ⟨_, rfl, rfl, rfl⟩)
/-- strings.Join: the slice's cells out of the memory. -/
def strsOf : List V → Option (List ByteArray)
  | [] => some []
  | .str s :: t => match strsOf t with
    | some r => some (s :: r)
    | none => none
  | _ => none
theorem strsOf_eq : ∀ {cs : List V} {L : List ByteArray}, strsOf cs = some L → cs = L.map V.str
  | [], L, h => by simp [strsOf] at h; subst h; rfl
  | c :: cs, L, h => by
    cases c <;> simp only [strsOf] at h <;> try (cases h; done)
    split at h <;> try (cases h; done)
    rename_i s r hr
    cases h
    rw [strsOf_eq hr]; rfl

def joinB (L : List ByteArray) (sep : ByteArray) : ByteArray := ⟨(Lib.join (L.map (·.data.toList)) sep.data.toList).toArray⟩
theorem vrs_str_eq {ρ : Nat → Option Nat} : ∀ {L : List ByteArray} {xs : List Value}, VRs ρ (L.map V.str) xs → xs = L.map Value.string
  | [], xs, h => by cases h; rfl
  | x :: L, xs, h => by
    cases h with
    | cons h t => cases h; rw [vrs_str_eq t]; rfl
noncomputable def B47 : Bod Tryd.prog := ⟨47, Tryd.f47, Tryd.f47.body.getD .skip, Tryd.func47, by kernel_rfl, by kernel_rfl, Loops.no _ _⟩
noncomputable def E_Join : Ent Tryd.prog where
  id := 47
  g := fun vs bs => match vs with
    | [.slc b o n c, .str sep] => match lk bs b with
      | some cs => match strsOf cs with
        | some L => decide ((Lib.join (L.map (·.data.toList)) sep.data.toList).length ≤ 140737488355328)
        | none => false
      | none => false
    | _ => false
  fn := fun vs bs => match vs with
    | [.slc b o n c, .str sep] => match lk bs b with
      | some cs => match strsOf cs with
        | some L => bif Nat.beq o 0 && (Nat.beq L.length n && (Nat.ble n c && Nat.ble n 1000)) then some (.str (joinB L sep)) else none
        | none => none
      | none => none
    | _ => none
  ok := fun vs m v hg hf w0 ρ xs w hv hm => by
    split at hf <;> try (cases hf; done)
    rename_i b o n c sep
    split at hf <;> try (cases hf; done)
    rename_i cs hcs
    split at hf <;> try (cases hf; done)
    rename_i L hL
    simp only [hcs, hL, decide_eq_true_eq] at hg
    cases hb : (Nat.beq o 0 && (Nat.beq L.length n && (Nat.ble n c && Nat.ble n 1000))) with
    | false => simp [hb] at hf
    | true =>
      simp only [hb, cond_true, Option.some.injEq] at hf
      subst hf
      simp only [Bool.and_eq_true] at hb
      obtain ⟨b1, b2, b3, b4⟩ := hb
      have b1 := Nat.eq_of_beq_eq_true b1
      have b2 := Nat.eq_of_beq_eq_true b2
      have b3 := Nat.le_of_ble_eq_true b3
      have b4 := Nat.le_of_ble_eq_true b4
      subst b1; subst b2
      cases hv with
      | cons h1 t => cases t with
        | cons h2 t => cases t; cases h2; cases h1
                       rename_i r hr
                       obtain ⟨r', ys, ty, k1, k2, k3⟩ := hm.blk b cs hcs
                       rw [hr] at k1; cases k1
                       rw [strsOf_eq hL] at k3
                       have hys := vrs_str_eq k3
                       subst hys
                       refine does_calls B47 ((Tryd.strings_Join r 0 c L sep w (fun j x hx => ?_) (hm.dom b r hr) (by omega) b3 hg).mono fun e w' he => ?_)
                       · rw [cell_of_row w r _ _ ty _ k2]
                         simp [hx]
                       · obtain ⟨rfl, hbl⟩ := he
                         exact ⟨_, rfl, .str _, hbl⟩
end Go.Proofs.YtegdoadciojpaaaDoor.Ev
