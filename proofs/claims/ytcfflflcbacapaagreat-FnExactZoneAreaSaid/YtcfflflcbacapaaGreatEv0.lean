/-
  A small evaluator for the program's code, proved sound: numbers, values, memory.
  (Part 0: numbers in range, the evaluator's own values, and how they stand for the model's.)
-/
import Derived.Orders
import Derived.LoopN
import Derived.Below
import Derived.Tactics
import Derived.KernelRfl
import Derived.Laws.Tables
import Derived.Laws.Cells
import Derived.Laws.StructEq
import Derived.Laws.Rows
import Derived.Laws.Externs
namespace Go.Proofs.YtcfflflcbacapaaGreat.Ev
open Go Go.RowKit
set_option linter.unusedSimpArgs false
set_option linter.unusedVariables false

/-! ### numbers in range -/
def inB : IntKind → Int → Bool
  | .i8, n => decide (-128 ≤ n) && decide (n ≤ 127)
  | .i16, n => decide (-32768 ≤ n) && decide (n ≤ 32767)
  | .i32, n => decide (-2147483648 ≤ n) && decide (n ≤ 2147483647)
  | .i64, n => decide (-9223372036854775808 ≤ n) && decide (n ≤ 9223372036854775807)
  | .u8, n => decide (0 ≤ n) && decide (n ≤ 255)
  | .u16, n => decide (0 ≤ n) && decide (n ≤ 65535)
  | .u32, n => decide (0 ≤ n) && decide (n ≤ 4294967295)
  | .u64, n => decide (0 ≤ n) && decide (n ≤ 18446744073709551615)

theorem inB_wrap (k : IntKind) (n : Int) : inB k (k.wrap n) = true := by
  cases k <;> simp only [inB, IntKind.wrap, IntKind.bits, IntKind.signed, Bool.and_eq_true, decide_eq_true_eq, Bool.true_and, Bool.false_and, Bool.false_eq_true, if_false] <;>
    (try split) <;> simp_all <;> omega

theorem wrap_inB {k : IntKind} {n : Int} (h : inB k n = true) : k.wrap n = n := by
  cases k <;> simp only [inB, Bool.and_eq_true, decide_eq_true_eq] at h <;> obtain ⟨h1, h2⟩ := h <;>
    simp only [IntKind.wrap, IntKind.bits, IntKind.signed, Bool.true_and, Bool.false_and, Bool.false_eq_true, if_false] <;>
    (try split) <;> simp_all <;> omega

@[ext] structure Rng (k : IntKind) where
  val : Int
  ok : inB k val = true

def Rng.w (k : IntKind) (n : Int) : Rng k := ⟨k.wrap n, inB_wrap k n⟩
abbrev I64 := Rng .i64
abbrev U64 := Rng .u64
abbrev U8 := Rng .u8

theorem Rng.bd (x : I64) : -9223372036854775808 ≤ x.val ∧ x.val ≤ 9223372036854775807 := by
  have h := x.ok; simp only [inB, Bool.and_eq_true, decide_eq_true_eq] at h; exact h
theorem Rng.ubd (x : U64) : 0 ≤ x.val ∧ x.val ≤ 18446744073709551615 := by
  have h := x.ok; simp only [inB, Bool.and_eq_true, decide_eq_true_eq] at h; exact h
theorem Rng.bbd (x : U8) : 0 ≤ x.val ∧ x.val ≤ 255 := by
  have h := x.ok; simp only [inB, Bool.and_eq_true, decide_eq_true_eq] at h; exact h
@[simp] theorem Rng.w_val {k : IntKind} (x : Rng k) : Rng.w k x.val = x := by
  apply Rng.ext; exact wrap_inB x.ok
theorem Rng.val_w (k : IntKind) (n : Int) : (Rng.w k n).val = k.wrap n := rfl

/-! ### the evaluator's values -/
inductive V where
  | bool (b : Bool)
  | i64 (x : Rng .i64)
  | u64 (x : Rng .u64)
  | u8 (x : Rng .u8)
  | str (s : ByteArray)
  | ptr (b o : Nat)
  | slc (b o l c : Nat)
  | nilp | nils | nilf
  | glob (g : Nat)
  | agg (cs : List V)
  | tup (cs : List V)
  | fn (f : Nat) (cs : List V)
  deriving Inhabited

def V.cells : V → List V
  | .agg cs => cs
  | v => [v]

/-- No aggregate and no tuple: what one cell can hold. -/
def V.atom : V → Bool
  | .agg _ | .tup _ => false
  | _ => true

mutual
inductive VR (ρ : Nat → Option Nat) : V → Value → Prop
  | bool (b) : VR ρ (.bool b) (.bool b)
  | i64 (x) : VR ρ (.i64 x) (.int .i64 x.val)
  | u64 (x) : VR ρ (.u64 x) (.int .u64 x.val)
  | u8 (x) : VR ρ (.u8 x) (.int .u8 x.val)
  | str (s) : VR ρ (.str s) (.string s)
  | ptr {b o r} (h : ρ b = some r) : VR ρ (.ptr b o) (.pointer (some ⟨r, o, none⟩))
  | slc {b o l c r} (h : ρ b = some r) : VR ρ (.slc b o l c) (.slice (some ⟨r, o, none⟩) l c)
  | nilp : VR ρ .nilp (.pointer none)
  | nils : VR ρ .nils (.slice none 0 0)
  | nilf : VR ρ .nilf .nilFunc
  | glob (g) : VR ρ (.glob g) (.pointer (some ⟨g, 0, none⟩))
  | agg {cs xs} (h : VRs ρ cs xs) : VR ρ (.agg cs) (.agg xs.toArray)
  | tup {cs xs} (h : VRs ρ cs xs) : VR ρ (.tup cs) (.tuple xs.toArray)
  | fn {f cs xs} (h : VRs ρ cs xs) : VR ρ (.fn f cs) (.func (.func f) #[] xs.toArray)
inductive VRs (ρ : Nat → Option Nat) : List V → List Value → Prop
  | nil : VRs ρ [] []
  | cons {v x vs xs} (h : VR ρ v x) (t : VRs ρ vs xs) : VRs ρ (v :: vs) (x :: xs)
end

def Ext (ρ ρ' : Nat → Option Nat) : Prop := ∀ b r, ρ b = some r → ρ' b = some r
theorem Ext.refl (ρ) : Ext ρ ρ := fun _ _ h => h
theorem Ext.trans {a b c} (h : Ext a b) (k : Ext b c) : Ext a c := fun x r hx => k x r (h x r hx)

mutual
theorem VR.mono {ρ ρ' : Nat → Option Nat} (e : Ext ρ ρ') {v : V} {x : Value} : VR ρ v x → VR ρ' v x
  | .bool b => .bool b
  | .i64 n => .i64 n
  | .u64 n => .u64 n
  | .u8 n => .u8 n
  | .str s => .str s
  | .ptr h => .ptr (e _ _ h)
  | .slc h => .slc (e _ _ h)
  | .nilp => .nilp
  | .nils => .nils
  | .nilf => .nilf
  | .glob g => .glob g
  | .agg h => .agg (VRs.mono e h)
  | .tup h => .tup (VRs.mono e h)
  | .fn h => .fn (VRs.mono e h)
theorem VRs.mono {ρ ρ' : Nat → Option Nat} (e : Ext ρ ρ') {vs : List V} {xs : List Value} : VRs ρ vs xs → VRs ρ' vs xs
  | .nil => .nil
  | .cons h t => .cons (VR.mono e h) (VRs.mono e t)
end

section
variable {ρ : Nat → Option Nat}
theorem VRs.length {vs : List V} {xs : List Value} (h : VRs ρ vs xs) : xs.length = vs.length := by
  induction vs generalizing xs with
  | nil => cases h; rfl
  | cons v vs ih => cases h with | cons h t => simp [ih t]
theorem VRs.get {vs : List V} {xs : List Value} (h : VRs ρ vs xs) (i : Nat) {v : V} (hv : vs[i]? = some v) : ∃ x, xs[i]? = some x ∧ VR ρ v x := by
  induction vs generalizing xs i with
  | nil => simp at hv
  | cons u vs ih =>
    cases h with
    | cons h t =>
      cases i with
      | zero => simp at hv; subst hv; exact ⟨_, by simp, h⟩
      | succ i => simpa using ih t i (by simpa using hv)
theorem VRs.append {vs vs' : List V} {xs xs' : List Value} (h : VRs ρ vs xs) (h' : VRs ρ vs' xs') : VRs ρ (vs ++ vs') (xs ++ xs') := by
  induction vs generalizing xs with
  | nil => cases h; simpa using h'
  | cons v vs ih => cases h with | cons h t => exact .cons h (ih t)
theorem VRs.take {vs : List V} {xs : List Value} (h : VRs ρ vs xs) (n : Nat) : VRs ρ (vs.take n) (xs.take n) := by
  induction vs generalizing xs n with
  | nil => cases h; simp; exact .nil
  | cons v vs ih =>
    cases h with
    | cons h t => cases n with
      | zero => simp; exact .nil
      | succ n => simp; exact .cons h (ih t n)
theorem VRs.drop {vs : List V} {xs : List Value} (h : VRs ρ vs xs) (n : Nat) : VRs ρ (vs.drop n) (xs.drop n) := by
  induction vs generalizing xs n with
  | nil => cases h; simp; exact .nil
  | cons v vs ih =>
    cases h with
    | cons h t => cases n with
      | zero => simp; exact .cons h t
      | succ n => simp; exact ih t n
theorem VR.cells {v : V} {x : Value} (h : VR ρ v x) : VRs ρ v.cells x.cells.toList := by
  cases h with
  | agg h => simpa [V.cells, Value.cells] using h
  | tup h => exact .cons (.tup h) .nil
  | fn h => exact .cons (.fn h) .nil
  | ptr h => exact .cons (.ptr h) .nil
  | slc h => exact .cons (.slc h) .nil
  | bool b => exact .cons (.bool b) .nil
  | i64 n => exact .cons (.i64 n) .nil
  | u64 n => exact .cons (.u64 n) .nil
  | u8 n => exact .cons (.u8 n) .nil
  | str s => exact .cons (.str s) .nil
  | nilp => exact .cons .nilp .nil
  | nils => exact .cons .nils .nil
  | nilf => exact .cons .nilf .nil
  | glob g => exact .cons (.glob g) .nil
theorem VR.one {v : V} {x : Value} (h : VR ρ v x) (ha : v.atom = true) : x.oneCell' = true := by
  cases h <;> simp_all [V.atom, Value.oneCell']
end

/-! ### memory -/
def lk {α : Type} : List (Nat × α) → Nat → Option α
  | [], _ => none
  | (i, v) :: t, j => bif Nat.beq i j then some v else lk t j

theorem lk_cons {α : Type} (i : Nat) (v : α) (t : List (Nat × α)) (j : Nat) : lk ((i, v) :: t) j = if i = j then some v else lk t j := by
  simp only [lk]; by_cases h : i = j
  · simp [h]
  · have : Nat.beq i j = false := by
      cases hb : Nat.beq i j with
      | false => rfl
      | true => exact absurd (Nat.eq_of_beq_eq_true hb) h
    simp [h, this]

structure Mem where
  blks : List (Nat × List V)
  nxt : Nat
  lo : Nat

/-- How the evaluator's memory lies in the world: w0 is the world in which the call began. -/
structure MRel (w0 : World) (ρ : Nat → Option Nat) (m : Mem) (w : World) : Prop where
  blk : ∀ b cs, lk m.blks b = some cs → ∃ r xs t, ρ b = some r ∧ w.heap[r]? = some (.cells xs.toArray t (0, 0)) ∧ VRs ρ cs xs
  inj : ∀ b b' r, ρ b = some r → ρ b' = some r → b = b'
  fresh : ∀ b, m.nxt ≤ b → ρ b = none
  dom : ∀ b r, ρ b = some r → r < w.heap.size
  own : ∀ b r, m.lo ≤ b → ρ b = some r → w0.heap.size ≤ r
  bel : Below w0.heap.size w0 w
  lon : m.lo ≤ m.nxt

structure St where
  tm : List (Nat × V)
  n : Nat
  mm : Mem

def St.put (s : St) (d : Option Tmp) (v : V) (m : Mem) : St :=
  match d with
  | some d => ⟨(d, v) :: s.tm, s.n, m⟩
  | none => ⟨s.tm, s.n, m⟩

/-- A destination lies in the frame. -/
def St.fits (s : St) : Option Tmp → Bool
  | some d => Nat.blt d s.n
  | none => true

structure Rel (w0 : World) (ρ : Nat → Option Nat) (s : St) (a : Act) (w : World) : Prop where
  tm : ∀ t v, lk s.tm t = some v → ∃ x, a.tmps[t]? = some x ∧ VR ρ v x
  sz : a.tmps.size = s.n
  df : a.defers = []
  mr : MRel w0 ρ s.mm w

theorem Rel.put {w0 : World} {ρ ρ' : Nat → Option Nat} {s : St} {a : Act} {w w' : World} (h : Rel w0 ρ s a w) (e : Ext ρ ρ') {d : Option Tmp} {v : V} {x : Value} {m : Mem}
    (hv : VR ρ' v x) (hf : s.fits d = true) (hm : MRel w0 ρ' m w') : Rel w0 ρ' (s.put d v m) (a.put d x) w' := by
  cases d with
  | none => exact ⟨fun t u hu => let ⟨y, hy, hr⟩ := h.tm t u hu; ⟨y, hy, hr.mono e⟩, h.sz, h.df, hm⟩
  | some d =>
    have hlt : d < a.tmps.size := by rw [h.sz]; simpa [St.fits] using hf
    refine ⟨fun t u hu => ?_, by simp [Act.put, h.sz, St.put], h.df, hm⟩
    simp only [St.put, lk_cons] at hu
    by_cases hd : d = t
    · subst hd
      simp at hu; subst hu
      exact ⟨x, by simp [Act.put, hlt], hv⟩
    · rw [if_neg hd] at hu
      obtain ⟨y, hy, hr⟩ := h.tm t u hu
      exact ⟨y, by simp [Act.put, Array.getElem?_setIfInBounds_ne hd, hy], hr.mono e⟩

/-- A draw turns nothing. -/
theorem MRel.drew {w0 : World} {ρ : Nat → Option Nat} {m : Mem} {w : World} (h : MRel w0 ρ m w) : MRel w0 ρ m { w with drawn := w.drawn + 1 } :=
  ⟨h.blk, h.inj, h.fresh, h.dom, h.own, h.bel.drew, h.lon⟩

/-- Behind something that left all old blocks alone. -/
theorem MRel.below {w0 : World} {ρ : Nat → Option Nat} {m : Mem} {w w' : World} (h : MRel w0 ρ m w) (hb : Below w.heap.size w w') : MRel w0 ρ m w' := by
  refine ⟨fun b cs hc => ?_, h.inj, h.fresh, fun b r hr => Nat.lt_of_lt_of_le (h.dom b r hr) hb.size, h.own, h.bel.trans (hb.mono h.bel.size), h.lon⟩
  obtain ⟨r, xs, t, hr, hx, hv⟩ := h.blk b cs hc
  exact ⟨r, xs, t, hr, by rw [hb.block r (h.dom b r hr)]; exact hx, hv⟩

/-- A new block. -/
def Mem.new (m : Mem) (cs : List V) : Mem := ⟨(m.nxt, cs) :: m.blks, m.nxt + 1, m.lo⟩
theorem MRel.new {w0 : World} {ρ : Nat → Option Nat} {m : Mem} {w : World} (h : MRel w0 ρ m w) {cs : List V} {xs : List Value} (hv : VRs ρ cs xs) (t : TypeId) :
    ∃ ρ', Ext ρ ρ' ∧ ρ' m.nxt = some w.heap.size ∧ MRel w0 ρ' (m.new cs) (w.alloc (.cells xs.toArray t (0, 0))) := by
  have hn := h.fresh m.nxt (Nat.le_refl _)
  have e : Ext ρ (fun b => if b = m.nxt then some w.heap.size else ρ b) := fun b r hr => by
    have : b ≠ m.nxt := fun hb => by rw [hb, hn] at hr; cases hr
    simp [this, hr]
  refine ⟨_, e, by simp, ?_, ?_, ?_, ?_, ?_, ?_, Nat.le_succ_of_le h.lon⟩
  · intro b cs' hc
    simp only [Mem.new, lk_cons] at hc
    by_cases hb : m.nxt = b
    · subst hb
      simp at hc; subst hc
      exact ⟨w.heap.size, xs, t, by simp, heap_alloc_new w _, hv.mono e⟩
    · rw [if_neg hb] at hc
      obtain ⟨r, ys, t', hr, hx, hvr⟩ := h.blk b cs' hc
      refine ⟨r, ys, t', e _ _ hr, ?_, hvr.mono e⟩
      rw [Below.heap_alloc _ _ _ (h.dom b r hr)]; exact hx
  · intro b b' r h1 h2
    split at h1 <;> split at h2
    · simp_all
    · cases h1; have := h.dom b' _ h2; omega
    · cases h2; have := h.dom b _ h1; omega
    · exact h.inj b b' r h1 h2
  · intro b hb
    have : b ≠ m.nxt := by simp [Mem.new] at hb; omega
    simp [this]; exact h.fresh b (by simp [Mem.new] at hb; omega)
  · intro b r hr
    rw [World.size_alloc]
    split at hr
    · cases hr; omega
    · have := h.dom b r hr; omega
  · intro b r hb hr
    split at hr
    · cases hr; exact h.bel.size
    · exact h.own b r hb hr
  · exact h.bel.alloc h.bel.size _

end Go.Proofs.YtcfflflcbacapaaGreat.Ev
