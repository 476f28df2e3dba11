/-
  A small evaluator for the program's code: typed functions as answers of calls.
-/
import Derived.Test.YtcfflflcbacapaaGreatEv4e
namespace Go.Proofs.YtcfflflcbacapaaGreat.Ev
open Go Go.RowKit
set_option linter.unusedSimpArgs false
set_option linter.unusedVariables false

mutual
def V.pf : V → Bool
  | .ptr _ _ => false
  | .slc _ _ _ _ => false
  | .agg cs => V.pfs cs
  | .tup cs => V.pfs cs
  | .fn _ cs => V.pfs cs
  | _ => true
def V.pfs : List V → Bool
  | [] => true
  | v :: vs => V.pf v && V.pfs vs
end
mutual
theorem VR.pf {ρ ρ' : Nat → Option Nat} {v : V} {x : Value} : VR ρ v x → v.pf = true → VR ρ' v x
  | .bool b, _ => .bool b
  | .i64 n, _ => .i64 n
  | .u64 n, _ => .u64 n
  | .u8 n, _ => .u8 n
  | .str s, _ => .str s
  | .ptr _, h => by simp [V.pf] at h
  | .slc _, h => by simp [V.pf] at h
  | .nilp, _ => .nilp
  | .nils, _ => .nils
  | .nilf, _ => .nilf
  | .glob g, _ => .glob g
  | .agg t, h => .agg (VRs.pf t (by simpa [V.pf] using h))
  | .tup t, h => .tup (VRs.pf t (by simpa [V.pf] using h))
  | .fn t, h => .fn (VRs.pf t (by simpa [V.pf] using h))
theorem VRs.pf {ρ ρ' : Nat → Option Nat} {vs : List V} {xs : List Value} : VRs ρ vs xs → V.pfs vs = true → VRs ρ' vs xs
  | .nil, _ => .nil
  | .cons h t, hp => by
    simp only [V.pfs, Bool.and_eq_true] at hp
    exact .cons (VR.pf h hp.1) (VRs.pf t hp.2)
end

class Enc (α : Type) where
  enc : α → V
  dec : V → Option α
  dec_enc : ∀ v x, dec v = some x → v = enc x
  pf : ∀ x, (enc x).pf = true
abbrev enc {α : Type} [Enc α] (x : α) : V := Enc.enc x
abbrev dec {α : Type} [Enc α] (v : V) : Option α := Enc.dec v

instance : Enc Bool where
  enc := .bool
  dec := fun v => match v with | .bool b => some b | _ => none
  dec_enc := fun v x h => by cases v <;> simp at h; simp [h]
  pf := fun _ => rfl
instance : Enc I64 where
  enc := .i64
  dec := fun v => match v with | .i64 b => some b | _ => none
  dec_enc := fun v x h => by cases v <;> simp at h; simp [h]
  pf := fun _ => rfl
instance : Enc U64 where
  enc := .u64
  dec := fun v => match v with | .u64 b => some b | _ => none
  dec_enc := fun v x h => by cases v <;> simp at h; simp [h]
  pf := fun _ => rfl
instance : Enc U8 where
  enc := .u8
  dec := fun v => match v with | .u8 b => some b | _ => none
  dec_enc := fun v x h => by cases v <;> simp at h; simp [h]
  pf := fun _ => rfl
instance : Enc ByteArray where
  enc := .str
  dec := fun v => match v with | .str b => some b | _ => none
  dec_enc := fun v x h => by cases v <;> simp at h; simp [h]
  pf := fun _ => rfl

/-- Several results. -/
structure T2 (α β : Type) where
  a : α
  b : β
structure T3 (α β γ : Type) where
  a : α
  b : β
  c : γ
structure T4 (α β γ δ : Type) where
  a : α
  b : β
  c : γ
  d : δ
instance {α β : Type} [Enc α] [Enc β] : Enc (T2 α β) where
  enc := fun t => .tup [enc t.a, enc t.b]
  dec := fun v => match v with
    | .tup [x, y] => match dec x, dec y with
      | some a, some b => some ⟨a, b⟩
      | _, _ => none
    | _ => none
  dec_enc := fun v x h => by
    split at h <;> try (cases h; done)
    split at h <;> try (cases h; done)
    rename_i h1 h2
    cases h
    rw [Enc.dec_enc _ _ h1, Enc.dec_enc _ _ h2]
  pf := fun x => by simp [V.pf, V.pfs, Enc.pf]
instance {α β γ : Type} [Enc α] [Enc β] [Enc γ] : Enc (T3 α β γ) where
  enc := fun t => .tup [enc t.a, enc t.b, enc t.c]
  dec := fun v => match v with
    | .tup [x, y, z] => match dec x, dec y, dec z with
      | some a, some b, some c => some ⟨a, b, c⟩
      | _, _, _ => none
    | _ => none
  dec_enc := fun v x h => by
    split at h <;> try (cases h; done)
    split at h <;> try (cases h; done)
    rename_i h1 h2 h3
    cases h
    rw [Enc.dec_enc _ _ h1, Enc.dec_enc _ _ h2, Enc.dec_enc _ _ h3]
  pf := fun x => by simp [V.pf, V.pfs, Enc.pf]
instance {α β γ δ : Type} [Enc α] [Enc β] [Enc γ] [Enc δ] : Enc (T4 α β γ δ) where
  enc := fun t => .tup [enc t.a, enc t.b, enc t.c, enc t.d]
  dec := fun v => match v with
    | .tup [x, y, z, u] => match dec x, dec y, dec z, dec u with
      | some a, some b, some c, some d => some ⟨a, b, c, d⟩
      | _, _, _, _ => none
    | _ => none
  dec_enc := fun v x h => by
    split at h <;> try (cases h; done)
    split at h <;> try (cases h; done)
    rename_i h1 h2 h3 h4
    cases h
    rw [Enc.dec_enc _ _ h1, Enc.dec_enc _ _ h2, Enc.dec_enc _ _ h3, Enc.dec_enc _ _ h4]
  pf := fun x => by simp [V.pf, V.pfs, Enc.pf]

/-- Flat structs: the cells one behind the other. -/
class Flat (α : Type) where
  put : α → List V
  get : List V → Option (α × List V)
  get_put : ∀ vs x r, get vs = some (x, r) → vs = put x ++ r
  pf : ∀ x, V.pfs (put x) = true
instance : Flat I64 where
  put := fun x => [.i64 x]
  get := fun vs => match vs with | .i64 x :: r => some (x, r) | _ => none
  get_put := fun vs x r h => by split at h <;> cases h; rfl
  pf := fun x => rfl
instance : Flat U64 where
  put := fun x => [.u64 x]
  get := fun vs => match vs with | .u64 x :: r => some (x, r) | _ => none
  get_put := fun vs x r h => by split at h <;> cases h; rfl
  pf := fun x => rfl
instance : Flat Bool where
  put := fun x => [.bool x]
  get := fun vs => match vs with | .bool x :: r => some (x, r) | _ => none
  get_put := fun vs x r h => by split at h <;> cases h; rfl
  pf := fun x => rfl
theorem V.pfs_append : ∀ (a b : List V), V.pfs a = true → V.pfs b = true → V.pfs (a ++ b) = true
  | [], b, _, h => by simpa using h
  | v :: a, b, ha, hb => by
    simp only [V.pfs, Bool.and_eq_true, List.cons_append] at *
    exact ⟨ha.1, V.pfs_append a b ha.2 hb⟩

structure Iv where
  lo : I64
  hi : I64
structure Vec where
  x : Iv
  y : Iv
  z : Iv
structure Wide where
  hi : I64
  lo : U64
structure Point where
  lat : I64
  lon : I64
structure Place where
  pt : Point
  h : I64
structure Ell where
  a : I64
  num : I64
  den : I64
structure Proj where
  kind : I64
  lat0 : I64
  lon0 : I64
  lat1 : I64
  lat2 : I64
structure Planar where
  x : Iv
  y : Iv

instance : Flat Iv where
  put := fun v => [.i64 v.lo, .i64 v.hi]
  get := fun vs => match vs with | .i64 a :: .i64 b :: r => some (⟨a, b⟩, r) | _ => none
  get_put := fun vs x r h => by split at h <;> cases h; rfl
  pf := fun x => rfl
instance : Flat Wide where
  put := fun v => [.i64 v.hi, .u64 v.lo]
  get := fun vs => match vs with | .i64 a :: .u64 b :: r => some (⟨a, b⟩, r) | _ => none
  get_put := fun vs x r h => by split at h <;> cases h; rfl
  pf := fun x => rfl
instance : Flat Point where
  put := fun v => [.i64 v.lat, .i64 v.lon]
  get := fun vs => match vs with | .i64 a :: .i64 b :: r => some (⟨a, b⟩, r) | _ => none
  get_put := fun vs x r h => by split at h <;> cases h; rfl
  pf := fun x => rfl
instance : Flat Place where
  put := fun v => [.i64 v.pt.lat, .i64 v.pt.lon, .i64 v.h]
  get := fun vs => match vs with | .i64 a :: .i64 b :: .i64 c :: r => some (⟨⟨a, b⟩, c⟩, r) | _ => none
  get_put := fun vs x r h => by split at h <;> cases h; rfl
  pf := fun x => rfl
instance : Flat Ell where
  put := fun v => [.i64 v.a, .i64 v.num, .i64 v.den]
  get := fun vs => match vs with | .i64 a :: .i64 b :: .i64 c :: r => some (⟨a, b, c⟩, r) | _ => none
  get_put := fun vs x r h => by split at h <;> cases h; rfl
  pf := fun x => rfl
instance : Flat Proj where
  put := fun v => [.i64 v.kind, .i64 v.lat0, .i64 v.lon0, .i64 v.lat1, .i64 v.lat2]
  get := fun vs => match vs with | .i64 a :: .i64 b :: .i64 c :: .i64 d :: .i64 e :: r => some (⟨a, b, c, d, e⟩, r) | _ => none
  get_put := fun vs x r h => by split at h <;> cases h; rfl
  pf := fun x => rfl
instance : Flat Vec where
  put := fun v => [.i64 v.x.lo, .i64 v.x.hi, .i64 v.y.lo, .i64 v.y.hi, .i64 v.z.lo, .i64 v.z.hi]
  get := fun vs => match vs with | .i64 a :: .i64 b :: .i64 c :: .i64 d :: .i64 e :: .i64 f :: r => some (⟨⟨a, b⟩, ⟨c, d⟩, ⟨e, f⟩⟩, r) | _ => none
  get_put := fun vs x r h => by split at h <;> cases h; rfl
  pf := fun x => rfl
instance : Flat Planar where
  put := fun v => [.i64 v.x.lo, .i64 v.x.hi, .i64 v.y.lo, .i64 v.y.hi]
  get := fun vs => match vs with | .i64 a :: .i64 b :: .i64 c :: .i64 d :: r => some (⟨⟨a, b⟩, ⟨c, d⟩⟩, r) | _ => none
  get_put := fun vs x r h => by split at h <;> cases h; rfl
  pf := fun x => rfl

/-- A flat struct as a value. -/
abbrev Flat.toEnc (α : Type) [Flat α] : Enc α where
  enc := fun x => .agg (Flat.put x)
  dec := fun v => match v with
    | .agg cs => match Flat.get (α := α) cs with
      | some (x, []) => some x
      | _ => none
    | _ => none
  dec_enc := fun v x h => by
    split at h <;> try (cases h; done)
    split at h <;> try (cases h; done)
    rename_i h1
    cases h
    have := Flat.get_put _ _ _ h1
    rw [this]; simp
  pf := fun x => by simp [V.pf, Flat.pf]
instance : Enc Iv := Flat.toEnc Iv
instance : Enc Wide := Flat.toEnc Wide
instance : Enc Point := Flat.toEnc Point
instance : Enc Place := Flat.toEnc Place
instance : Enc Ell := Flat.toEnc Ell
instance : Enc Proj := Flat.toEnc Proj
instance : Enc Vec := Flat.toEnc Vec
instance : Enc Planar := Flat.toEnc Planar

/-! ### the tables of one walk -/
structure Tb (P : Program) where
  T : List (TyE P)
  mix : P.follows .mixedOrders = true
  Es : List (Ent P) := []
  Bs : List (Bod P) := []
  N : Nat := 70
  d : Nat := 0

section
variable {P : Program}

def Tb.drw (t : Tb P) {A : Type} : List Oper → St → (St → Option A) → Option A := drawkk t.T t.Es
theorem Tb.draw_ok (t : Tb P) {A : Type} (w0 : World) : DrawOk P w0 (t.drw (A := A)) := drawkk_ok t.mix

def Tb.run (t : Tb P) (b : Bod P) (vs : List V) (γ : Type) [Enc γ] : Option γ :=
  runk t.T (callk t.T (fun _ => t.drw) t.Es t.Bs t.N t.d) t.drw t.N b vs ⟨[], 0, 0⟩ fun v _ => dec v

theorem MRel.empty (w : World) : MRel w (fun _ => none) ⟨[], 0, 0⟩ w :=
  ⟨fun b cs h => by simp [lk] at h, fun b b' r h => by simp at h, fun _ _ => rfl, fun b r h => by simp at h, fun b r _ h => by simp at h, Below.refl _ _, Nat.le_refl _⟩

theorem Tb.run_sound {t : Tb P} {b : Bod P} {vs : List V} {γ : Type} [Enc γ] {y : γ} (h : t.run b vs γ = some y) {ρ : Nat → Option Nat} {xs : List Value} {w : World}
    (hv : VRs ρ vs xs) (hp : V.pfs vs = true) :
    Calls P b.id xs.toArray w fun e w' => ∃ x, e = .returned x ∧ (∀ ρ, VR ρ (enc y) x) ∧ Below w.heap.size w w' := by
  refine (runk_sound (w0 := w) (callk_ok (fun _ _ => t.draw_ok w) t.d) (t.draw_ok w) h (ρ := fun _ => none) (hv.pf hp) (MRel.empty w)).mono fun e w' he => ?_
  obtain ⟨v, m', ρ', x, rfl, h1, h2, h3, h4⟩ := he
  have := Enc.dec_enc _ _ h4
  subst this
  exact ⟨x, rfl, fun ρ => h2.pf (Enc.pf y), h3.bel⟩

theorem Tb.run_does {t : Tb P} {b : Bod P} {vs : List V} {γ : Type} [Enc γ] {y : γ} (h : t.run b vs γ = some y) {ρ : Nat → Option Nat} {xs : List Value} {w : World}
    (hv : VRs ρ vs xs) (hp : V.pfs vs = true) : Does P b.id xs.toArray w fun x w' => VR ρ (enc y) x ∧ Below w.heap.size w w' := by
  intro o a next Q hn
  rw [callFunc_enter, Oper.upon_enter]
  refine (Tb.run_sound h hv hp).mono fun e w' he => ?_
  obtain ⟨x, rfl, h1, h2⟩ := he
  exact hn x w' ⟨h1 ρ, h2⟩

/-! ### answers of calls, by the number of arguments -/
def Ent.of0 {γ : Type} [Enc γ] (t : Tb P) (b : Bod P) (F : γ) (h : t.run b [] γ = some F) : Ent P where
  id := b.id
  g := fun _ _ => true
  fn := fun vs _ => match vs with
    | [] => some (enc F)
    | _ => none
  ok := fun vs m v _ hf w0 ρ xs w hv hm => by
    split at hf <;> cases hf
    exact Tb.run_does h hv rfl

def Ent.of1 {α γ : Type} [Enc α] [Enc γ] (t : Tb P) (b : Bod P) (G : α → Bool) (F : α → γ) (h : ∀ x, G x = true → t.run b [enc x] γ = some (F x)) : Ent P where
  id := b.id
  g := fun vs _ => match vs with
    | [x] => match (dec x : Option α) with
      | some x => G x
      | _ => false
    | _ => false
  fn := fun vs _ => match vs with
    | [x] => match (dec x : Option α) with
      | some x => some (enc (F x))
      | _ => none
    | _ => none
  ok := fun vs m v hg hf w0 ρ xs w hv hm => by
    split at hf <;> try (cases hf; done)
    split at hf <;> try (cases hf; done)
    rename_i x hx
    cases hf
    simp only [hx] at hg
    have := Enc.dec_enc _ _ hx
    subst this
    exact Tb.run_does (h x hg) hv (by simp [V.pfs, Enc.pf])

def Ent.of2 {α β γ : Type} [Enc α] [Enc β] [Enc γ] (t : Tb P) (b : Bod P) (G : α → β → Bool) (F : α → β → γ) (h : ∀ x y, G x y = true → t.run b [enc x, enc y] γ = some (F x y)) : Ent P where
  id := b.id
  g := fun vs _ => match vs with
    | [x, y] => match (dec x : Option α), (dec y : Option β) with
      | some x, some y => G x y
      | _, _ => false
    | _ => false
  fn := fun vs _ => match vs with
    | [x, y] => match (dec x : Option α), (dec y : Option β) with
      | some x, some y => some (enc (F x y))
      | _, _ => none
    | _ => none
  ok := fun vs m v hg hf w0 ρ xs w hv hm => by
    split at hf <;> try (cases hf; done)
    split at hf <;> try (cases hf; done)
    rename_i x y hx hy
    cases hf
    simp only [hx, hy] at hg
    have e1 := Enc.dec_enc _ _ hx
    have e2 := Enc.dec_enc _ _ hy
    subst e1; subst e2
    exact Tb.run_does (h x y hg) hv (by simp [V.pfs, Enc.pf])

def Ent.of3 {α β δ γ : Type} [Enc α] [Enc β] [Enc δ] [Enc γ] (t : Tb P) (b : Bod P) (G : α → β → δ → Bool) (F : α → β → δ → γ)
    (h : ∀ x y z, G x y z = true → t.run b [enc x, enc y, enc z] γ = some (F x y z)) : Ent P where
  id := b.id
  g := fun vs _ => match vs with
    | [x, y, z] => match (dec x : Option α), (dec y : Option β), (dec z : Option δ) with
      | some x, some y, some z => G x y z
      | _, _, _ => false
    | _ => false
  fn := fun vs _ => match vs with
    | [x, y, z] => match (dec x : Option α), (dec y : Option β), (dec z : Option δ) with
      | some x, some y, some z => some (enc (F x y z))
      | _, _, _ => none
    | _ => none
  ok := fun vs m v hg hf w0 ρ xs w hv hm => by
    split at hf <;> try (cases hf; done)
    split at hf <;> try (cases hf; done)
    rename_i x y z hx hy hz
    cases hf
    simp only [hx, hy, hz] at hg
    have e1 := Enc.dec_enc _ _ hx
    have e2 := Enc.dec_enc _ _ hy
    have e3 := Enc.dec_enc _ _ hz
    subst e1; subst e2; subst e3
    exact Tb.run_does (h x y z hg) hv (by simp [V.pfs, Enc.pf])

def Ent.of4 {α β δ ε γ : Type} [Enc α] [Enc β] [Enc δ] [Enc ε] [Enc γ] (t : Tb P) (b : Bod P) (G : α → β → δ → ε → Bool) (F : α → β → δ → ε → γ)
    (h : ∀ x y z u, G x y z u = true → t.run b [enc x, enc y, enc z, enc u] γ = some (F x y z u)) : Ent P where
  id := b.id
  g := fun vs _ => match vs with
    | [x, y, z, u] => match (dec x : Option α), (dec y : Option β), (dec z : Option δ), (dec u : Option ε) with
      | some x, some y, some z, some u => G x y z u
      | _, _, _, _ => false
    | _ => false
  fn := fun vs _ => match vs with
    | [x, y, z, u] => match (dec x : Option α), (dec y : Option β), (dec z : Option δ), (dec u : Option ε) with
      | some x, some y, some z, some u => some (enc (F x y z u))
      | _, _, _, _ => none
    | _ => none
  ok := fun vs m v hg hf w0 ρ xs w hv hm => by
    split at hf <;> try (cases hf; done)
    split at hf <;> try (cases hf; done)
    rename_i x y z u hx hy hz hu
    cases hf
    simp only [hx, hy, hz, hu] at hg
    have e1 := Enc.dec_enc _ _ hx
    have e2 := Enc.dec_enc _ _ hy
    have e3 := Enc.dec_enc _ _ hz
    have e4 := Enc.dec_enc _ _ hu
    subst e1; subst e2; subst e3; subst e4
    exact Tb.run_does (h x y z u hg) hv (by simp [V.pfs, Enc.pf])

/-- A function without a body of its own, that the model answers at once. -/
theorem does_value {f : Nat} {xs : Array Value} {w : World} {x : Value} {R : Value → World → Prop} (h : (callFunc f xs).run P w = .ok (.value x) w) (hr : R x w) : Does P f xs w R :=
  fun o a next Q hn => by rw [h]; exact hn x w hr
end

end Go.Proofs.YtcfflflcbacapaaGreat.Ev
