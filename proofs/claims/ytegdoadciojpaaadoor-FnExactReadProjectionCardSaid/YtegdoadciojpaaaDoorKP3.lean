/-
  Entries by hand for texts: decimal numerals, copies, digits (over contracts of the shelf and of print.sh).
-/
import Derived.Test.YtegdoadciojpaaaDoorWP
import Derived.Test.YtegdoadciojpaaaDoorPp
import Derived.Test.YtegdoadciojpaaaDoorSh
import Derived.Lib.LaidTab
namespace Go.Proofs.YtegdoadciojpaaaDoor.Ev
open Go Go.RowKit
set_option maxRecDepth 100000
set_option linter.unusedVariables false
set_option linter.unusedSimpArgs false

theorem does_calls {P : Program} (b : Bod P) {xs : List Value} {w : World} {R : Value → World → Prop} (h : Calls P b.id xs.toArray w fun e w' => ∃ x, e = .returned x ∧ R x w') : Does P b.id xs.toArray w R := by
  intro o a next Q hn
  rw [callFunc_enter, Oper.upon_enter]
  refine Calls.mono h fun e w' he => ?_
  obtain ⟨x, rfl, h1⟩ := he
  exact hn x w' h1
theorem below_grow1 (w : World) (k : Nat) (os : Array Obj) : Below w.heap.size w (Sort.grow (w.drewN k) os) := by
  refine ⟨rfl, rfl, rfl, ?_, fun i hi => ?_⟩
  · show w.heap.size ≤ (w.heap ++ os).size; simp
  · show (w.heap ++ os)[i]? = w.heap[i]?; exact Array.getElem?_append_left hi
theorem gPow : Tryd.prog.globalNamed "internal/strconv.uint64pow10" = some 1 := by kernel_rfl
theorem vrs_u64 {ρ : Nat → Option Nat} : ∀ {L : List U64} {xs : List Value}, VRs ρ (L.map V.u64) xs → xs = L.map fun x => .int .u64 x.val
  | [], xs, h => by cases h; rfl
  | x :: L, xs, h => by
    cases h with
    | cons h t => cases h; rw [vrs_u64 t]; rfl
theorem tab_of {w : World} (h : Inv0 w) : Lib.TabIs Tryd.prog w "internal/strconv.uint64pow10" .u64 Lib.pow10Tab := by
  obtain ⟨xs, t, h1, h2⟩ := h.1 1 _ rfl
  unfold Lib.TabIs World.var?
  rw [gPow]
  simp only [Option.bind_some, h1]
  rw [vrs_u64 h2]
  have e : (pow10s.map fun x => Value.int .u64 x.val) = Lib.pow10Tab.map fun z => Value.int .u64 z := by kernel_rfl
  rw [e]

/-! ### decimal numerals -/
def decB (n : I64) : ByteArray := ⟨(Lib.itoa n.val).toArray⟩
noncomputable def B51 : Bod Tryd.prog := ⟨51, Tryd.f51, Tryd.f51.body.getD .skip, Tryd.func51, by kernel_rfl, by kernel_rfl, Loops.no _ _⟩
noncomputable def E_FormatInt : Ent Tryd.prog where
  id := 51
  g := fun vs _ => match vs with
    | [.i64 _, .i64 k] => k.val == 10
    | _ => false
  fn := fun vs _ => match vs with
    | [.i64 n, .i64 _] => some (.str (decB n))
    | _ => none
  ok := fun vs m v hg hf w0 ρ xs w hv hm => by
    split at hf <;> try (cases hf; done)
    rename_i n k
    cases hf
    have hk : k.val = 10 := by simpa using hg
    cases hv with
    | cons h1 t => cases t with
      | cons h2 t => cases t; cases h1; cases h2
                     rw [hk]
                     refine does_calls B51 ((Tryd.strconv_FormatInt_10 n.val n.bd.1 n.bd.2 w (tab_of hm.invw)).mono fun e w' he => ?_)
                     obtain ⟨rfl, q, os, rfl⟩ := he
                     exact ⟨_, rfl, .str _, below_grow1 w q os⟩
noncomputable def B41 : Bod Tryd.prog := ⟨41, Tryd.f41, Tryd.f41.body.getD .skip, Tryd.func41, by kernel_rfl, by kernel_rfl, Loops.no _ _⟩
noncomputable def E_l01Dec : Ent Tryd.prog where
  id := 41
  g := fun _ _ => true
  fn := fun vs _ => match vs with
    | [.i64 n] => some (.str (decB n))
    | _ => none
  ok := fun vs m v hg hf w0 ρ xs w hv hm => by
    split at hf <;> try (cases hf; done)
    rename_i n
    cases hf
    cases hv with
    | cons h1 t => cases t; cases h1
                   refine does_calls B41 ((Pr.spec_l01Dec.calls 21 n.val _ w (Pp.dec_itoa n.val n.bd.1 n.bd.2)).mono fun e w' he => ?_)
                   obtain ⟨rfl, hb⟩ := he
                   exact ⟨_, rfl, .str _, hb⟩
/-- Seven digits. -/
def padB (x : I64) : ByteArray := ⟨(Lib.repeatL [48] (7 - (Lib.itoa x.val).length) ++ Lib.itoa x.val).toArray⟩
noncomputable def B70 : Bod Tryd.prog := ⟨70, Tryd.f70, Tryd.f70.body.getD .skip, Tryd.func70, by kernel_rfl, by kernel_rfl, Loops.no _ _⟩
noncomputable def E_l11Digits : Ent Tryd.prog where
  id := 70
  g := fun vs _ => match vs with
    | [.i64 x, .i64 d] => (d.val == 7) && (decide (0 ≤ x.val) && decide (x.val < 10000000))
    | _ => false
  fn := fun vs _ => match vs with
    | [.i64 x, .i64 _] => some (.str (padB x))
    | _ => none
  ok := fun vs m v hg hf w0 ρ xs w hv hm => by
    split at hf <;> try (cases hf; done)
    rename_i x d
    cases hf
    simp only [Bool.and_eq_true, decide_eq_true_eq, beq_iff_eq] at hg
    cases hv with
    | cons h1 t => cases t with
      | cons h2 t => cases t; cases h1; cases h2
                     rw [hg.1]
                     refine does_calls B70 ((Pr.spec_l11Digits.calls 8 x.val 7 _ w (Pp.digits7 x.val hg.2.1 hg.2.2).2).mono fun e w' he => ?_)
                     obtain ⟨rfl, hb⟩ := he
                     exact ⟨_, rfl, .str _, hb⟩
/-- Copies. -/
def repB (s : ByteArray) (c : I64) : ByteArray := ⟨(Lib.repeatL s.data.toList c.val.toNat).toArray⟩
noncomputable def B72 : Bod Tryd.prog := ⟨72, Tryd.f72, Tryd.f72.body.getD .skip, Tryd.func72, by kernel_rfl, by kernel_rfl, Loops.no _ _⟩
noncomputable def E_Repeat : Ent Tryd.prog where
  id := 72
  g := fun vs _ => match vs with
    | [.str s, .i64 c] => decide (0 ≤ c.val) && decide (s.size * c.val.toNat ≤ 140737488355328)
    | _ => false
  fn := fun vs _ => match vs with
    | [.str s, .i64 c] => some (.str (repB s c))
    | _ => none
  ok := fun vs m v hg hf w0 ρ xs w hv hm => by
    split at hf <;> try (cases hf; done)
    rename_i s c
    cases hf
    simp only [Bool.and_eq_true, decide_eq_true_eq] at hg
    cases hv with
    | cons h1 t => cases t with
      | cons h2 t => cases t; cases h1; cases h2
                     have hc := c.bd
                     have := Tryd.strings_Repeat s c.val.toNat w (by omega) hg.2
                     rw [show ((c.val.toNat : Nat) : Int) = c.val by omega] at this
                     refine does_calls B72 (this.mono fun e w' he => ?_)
                     obtain ⟨rfl, hb⟩ := he
                     exact ⟨_, rfl, .str _, hb⟩
end Go.Proofs.YtegdoadciojpaaaDoor.Ev
