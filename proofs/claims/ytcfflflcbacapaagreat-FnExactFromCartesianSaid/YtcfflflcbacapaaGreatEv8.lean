/-
  A small evaluator for the program's code: the two functions of math/bits that have no body; tables of loops.
-/
import Derived.Test.YtcfflflcbacapaaGreatEv7
import Derived.Laws.Externs
import Derived.KernelRfl
namespace Go.Proofs.YtcfflflcbacapaaGreat.Ev
open Go Go.RowKit
set_option linter.unusedSimpArgs false
set_option linter.unusedVariables false

section
variable {P : Program}

def Ent.ofV3 {γ : Type} [Enc γ] (id : Nat) (G : U64 → U64 → U64 → Bool) (F : U64 → U64 → U64 → γ)
    (h : ∀ (x y z : U64) (w : World), G x y z = true → ∃ v, (callFunc id #[.int .u64 x.val, .int .u64 y.val, .int .u64 z.val]).run P w = .ok (.value v) w ∧ ∀ ρ, VR ρ (enc (F x y z)) v) : Ent P where
  id := id
  g := fun vs _ => match vs with
    | [x, y, z] => match (dec x : Option U64), (dec y : Option U64), (dec z : Option U64) with
      | some x, some y, some z => G x y z
      | _, _, _ => false
    | _ => false
  fn := fun vs _ => match vs with
    | [x, y, z] => match (dec x : Option U64), (dec y : Option U64), (dec z : Option U64) with
      | some x, some y, some z => some (enc (F x y z))
      | _, _, _ => none
    | _ => none
  ok := fun vs m v hg hf w0 ρ xs w hv hm => by
    split at hf <;> try (cases hf; done)
    split at hf <;> try (cases hf; done)
    rename_i x y z hx hy hz
    cases hf
    simp only [hx, hy, hz] at hg
    have e1 := Enc.dec_enc _ _ hx
    have e2 := Enc.dec_enc _ _ hy
    have e3 := Enc.dec_enc _ _ hz
    subst e1; subst e2; subst e3
    cases hv with
    | cons h1 hv => cases hv with
      | cons h2 hv => cases hv with
        | cons h3 hv => cases hv with
          | nil =>
            cases h1; cases h2; cases h3
            obtain ⟨v, k1, k2⟩ := h x y z w hg
            exact does_value k1 ⟨k2 ρ, Below.refl _ _⟩

def F_math_bits_Add64 (x y c : U64) : T2 U64 U64 := ⟨.w .u64 (x.val + y.val + c.val), .w .u64 ((x.val + y.val + c.val) / 18446744073709551616)⟩
def F_math_bits_Sub64 (x y c : U64) : T2 U64 U64 := ⟨.w .u64 (x.val - y.val - c.val), .w .u64 (if x.val < y.val + c.val then 1 else 0)⟩
def G_carry (_ _ c : U64) : Bool := decide (c.val ≤ 1)

theorem wrap_u64_mod (n : Int) : IntKind.u64.wrap n = n % 18446744073709551616 := by
  simp [IntKind.wrap, IntKind.bits, IntKind.signed]

def Ent.add64 {f : Nat} {fn : Func} (hf : P.funcs[f]? = some fn) (hname : (fn.name == "runtime.NumGoroutine") = false) (hb : fn.body.isNone = true) (hn : Extern.findNext fn = none)
    (he : Extern.find fn = some (Extern.MathBitsCarry.rows.head (by decide)).2) : Ent P := .ofV3 f G_carry F_math_bits_Add64 fun x y z w hg => by
  have hz : z.val ≤ 1 := by simpa [G_carry] using hg
  have b1 := x.ubd; have b2 := y.ubd; have b3 := z.ubd
  refine ⟨_, ?_, fun ρ => .tup (.cons (.u64 _) (.cons (.u64 _) .nil))⟩
  rw [run_callFunc_extern hf hname hb hn he]
  have := run_add64 (P := P) x.val y.val z.val b1.1 b2.1 b3.1 hz w
  show ((add64Entry #[.int .u64 x.val, .int .u64 y.val, .int .u64 z.val]).run P w).andThen _ = _
  rw [this]
  simp only [Result.andThen_ok, F_math_bits_Add64, Rng.val_w, wrap_u64_mod]
  have : (x.val + y.val + z.val) / 18446744073709551616 % 18446744073709551616 = (x.val + y.val + z.val) / 18446744073709551616 := by omega
  rw [this]

theorem sub_run (x y b : Nat) (hb : b ≤ 1) (w : World) : ((Extern.MathBitsCarry.rows.getLast (by decide)).2 #[.int .u64 x, .int .u64 y, .int .u64 b]).run P w =
    .ok (.tuple #[.int .u64 (((x + 18446744073709551616 - y - b) % 18446744073709551616 : Nat) : Int), .int .u64 ((if x < y + b then 1 else 0 : Nat) : Int)]) w := by
  have : b = 0 ∨ b = 1 := by omega
  rcases this with rfl | rfl <;> rfl

def Ent.sub64 {f : Nat} {fn : Func} (hf : P.funcs[f]? = some fn) (hname : (fn.name == "runtime.NumGoroutine") = false) (hb : fn.body.isNone = true) (hn : Extern.findNext fn = none)
    (he : Extern.find fn = some (Extern.MathBitsCarry.rows.getLast (by decide)).2) : Ent P := .ofV3 f G_carry F_math_bits_Sub64 fun x y z w hg => by
  have hz : z.val ≤ 1 := by simpa [G_carry] using hg
  have b1 := x.ubd; have b2 := y.ubd; have b3 := z.ubd
  refine ⟨_, ?_, fun ρ => .tup (.cons (.u64 _) (.cons (.u64 _) .nil))⟩
  rw [run_callFunc_extern hf hname hb hn he]
  obtain ⟨a, ha⟩ := Int.eq_ofNat_of_zero_le b1.1
  obtain ⟨b, hb⟩ := Int.eq_ofNat_of_zero_le b2.1
  obtain ⟨c, hc⟩ := Int.eq_ofNat_of_zero_le b3.1
  simp only [F_math_bits_Sub64, Rng.val_w, wrap_u64_mod]
  rw [ha, hb, hc]
  rw [ha] at b1; rw [hb] at b2; rw [hc] at b3 hz
  rw [sub_run a b c (by omega)]
  have e1 : (((a + 18446744073709551616 - b - c) % 18446744073709551616 : Nat) : Int) = ((a : Int) - b - c) % 18446744073709551616 := by omega
  have e2 : ((if a < b + c then 1 else 0 : Nat) : Int) = (if (a : Int) < b + c then 1 else 0) % 18446744073709551616 := by split <;> split <;> omega
  rw [e1, e2]
  rfl

/-! ### the strings of a code -/
def opdStrs : Operand → List ByteArray
  | .const (.string s) => [s]
  | _ => []
def codeStrs : Code → List ByteArray
  | .seq a b => codeStrs a ++ codeStrs b
  | .cond x a b => opdStrs x ++ (codeStrs a ++ codeStrs b)
  | .block _ a => codeStrs a
  | .loop a => codeStrs a
  | .region _ ops _ => ops.toList.flatMap fun o => o.op.operands.toList.flatMap opdStrs
  | _ => []

theorem lk_lt {α : Type} {nx : Nat} : ∀ {l : List (Nat × α)} {b : Nat} {c : α}, (l.map (·.1)).all (fun b => Nat.blt b nx) = true → lk l b = some c → b < nx
  | [], b, c, _, h => by simp [lk] at h
  | (k, v) :: t, b, c, ha, h => by
    simp only [List.map_cons, List.all_cons, Bool.and_eq_true] at ha
    simp only [lk_cons] at h
    by_cases hk : k = b
    · subst hk; simpa using ha.1
    · rw [if_neg hk] at h; exact lk_lt ha.2 h

/-! ### loops by their place -/
def loopAt (c : Code) (i : Nat) : Code := (loopsOf c).getD i .skip
theorem Loops.of {c : Code} {ks : List Nat} (hk : (loopsOf c).map key = ks) {lt : LT} (h : ∀ i k, ks[i]? = some k → ∀ f, lt k = some f → LoopOk P (loopAt c i) f) :
    ∀ c' ∈ loopsOf c, ∀ f, lt (key c') = some f → LoopOk P c' f := by
  intro c' hc f hf
  obtain ⟨i, hi, he⟩ := List.getElem_of_mem hc
  have := h i (key c') (by rw [← hk]; simp [hi, he]) f hf
  unfold loopAt at this
  simpa [List.getD, hi, he] using this
def ltOf : List (Nat × LpF) → LT
  | [], _ => none
  | (k, f) :: t, n => bif Nat.beq k n then some f else ltOf t n
end
end Go.Proofs.YtcfflflcbacapaaGreat.Ev
