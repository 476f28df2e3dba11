/-
  A small evaluator for the program's code: trees of branches; loops of any number of rounds.
-/
import Derived.Test.YtcfflflcbacapaaGreatEv5
namespace Go.Proofs.YtcfflflcbacapaaGreat.Ev
open Go Go.RowKit
set_option linter.unusedSimpArgs false
set_option linter.unusedVariables false

inductive Tr (γ : Type) where
  | leaf (x : γ)
  | br (c : Bool) (a b : Tr γ)
  | bad
namespace Tr
def opt {γ : Type} : Tr γ → Option γ
  | leaf x => some x
  | br c a b => bif c then a.opt else b.opt
  | bad => none
def get {γ : Type} [Inhabited γ] : Tr γ → γ
  | leaf x => x
  | br c a b => bif c then a.get else b.get
  | bad => default
/-- No branch is bad. -/
def tot {γ : Type} : Tr γ → Bool
  | leaf _ => true
  | br _ a b => a.tot && b.tot
  | bad => false
theorem tot_get {γ : Type} [Inhabited γ] {t : Tr γ} (h : t.tot = true) : t.opt = some t.get := by
  induction t with
  | leaf x => rfl
  | br c a b iha ihb =>
    simp only [tot, Bool.and_eq_true] at h
    cases c
    · exact ihb h.2
    · exact iha h.1
  | bad => cases h
theorem opt_get {γ : Type} [Inhabited γ] {t : Tr γ} {x : γ} (h : t.opt = some x) : t.get = x := by
  induction t with
  | leaf y => simpa [opt, get] using h
  | br c a b iha ihb => cases c <;> simp only [opt, get, cond_true, cond_false] at h ⊢ <;> first | exact iha h | exact ihb h
  | bad => cases h
theorem get_some {γ : Type} [Inhabited γ] {t : Tr γ} (h : t.opt.isSome = true) : t.opt = some t.get := by
  cases ho : t.opt with
  | none => rw [ho] at h; cases h
  | some x => rw [opt_get ho]
def fold {γ A : Type} (k : γ → Option A) : Tr γ → Option A
  | leaf x => k x
  | br c a b => bif c then a.fold k else b.fold k
  | bad => none
def bind {γ δ : Type} (k : γ → Tr δ) : Tr γ → Tr δ
  | leaf x => k x
  | br c a b => .br c (a.bind k) (b.bind k)
  | bad => bad
theorem opt_bind {γ δ : Type} (k : γ → Tr δ) (t : Tr γ) : (t.bind k).opt = match t.opt with
    | some x => (k x).opt
    | none => none := by
  induction t with
  | leaf x => rfl
  | br c a b iha ihb => cases c <;> simp only [bind, opt, cond_true, cond_false, iha, ihb]
  | bad => rfl
theorem fold_opt {γ A : Type} (k : γ → Option A) (t : Tr γ) : t.fold k = match t.opt with
    | some x => k x
    | none => none := by
  induction t with
  | leaf x => rfl
  | br c a b iha ihb => cases c <;> simp only [fold, opt, cond_true, cond_false, iha, ihb]
  | bad => rfl
end Tr

instance {k : IntKind} : Inhabited (Rng k) := ⟨.w k 0⟩
instance : Inhabited Iv := ⟨⟨default, default⟩⟩
instance : Inhabited Wide := ⟨⟨default, default⟩⟩
instance : Inhabited Vec := ⟨⟨default, default, default⟩⟩
instance : Inhabited Point := ⟨⟨default, default⟩⟩
instance : Inhabited Place := ⟨⟨default, default⟩⟩
instance : Inhabited Ell := ⟨⟨default, default, default⟩⟩
instance : Inhabited Proj := ⟨⟨default, default, default, default, default⟩⟩
instance : Inhabited Planar := ⟨⟨default, default⟩⟩
instance {α β : Type} [Inhabited α] [Inhabited β] : Inhabited (T2 α β) := ⟨⟨default, default⟩⟩
instance {α β γ : Type} [Inhabited α] [Inhabited β] [Inhabited γ] : Inhabited (T3 α β γ) := ⟨⟨default, default, default⟩⟩
instance {α β γ δ : Type} [Inhabited α] [Inhabited β] [Inhabited γ] [Inhabited δ] : Inhabited (T4 α β γ δ) := ⟨⟨default, default, default, default⟩⟩

/-! ### loops -/
mutual
/-- All that is pointed to has a number below n. -/
def V.bel (n : Nat) : V → Bool
  | .ptr b _ => Nat.blt b n
  | .slc b _ _ _ => Nat.blt b n
  | .agg cs => V.bels n cs
  | .tup cs => V.bels n cs
  | .fn _ cs => V.bels n cs
  | _ => true
def V.bels (n : Nat) : List V → Bool
  | [] => true
  | v :: vs => V.bel n v && V.bels n vs
end
def cutR (n : Nat) (ρ : Nat → Option Nat) : Nat → Option Nat := fun b => if b < n then ρ b else none
mutual
theorem VR.bel {n : Nat} {ρ : Nat → Option Nat} {v : V} {x : Value} : VR ρ v x → v.bel n = true → VR (cutR n ρ) v x
  | .bool b, _ => .bool b
  | .i64 n, _ => .i64 n
  | .u64 n, _ => .u64 n
  | .u8 n, _ => .u8 n
  | .str s, _ => .str s
  | .ptr h, hb => .ptr (by simp [V.bel] at hb; simp [cutR, hb, h])
  | .slc h, hb => .slc (by simp [V.bel] at hb; simp [cutR, hb, h])
  | .nilp, _ => .nilp
  | .nils, _ => .nils
  | .nilf, _ => .nilf
  | .glob g, _ => .glob g
  | .agg t, h => .agg (VRs.bel t (by simpa [V.bel] using h))
  | .tup t, h => .tup (VRs.bel t (by simpa [V.bel] using h))
  | .fn t, h => .fn (VRs.bel t (by simpa [V.bel] using h))
theorem VRs.bel {n : Nat} {ρ : Nat → Option Nat} {vs : List V} {xs : List Value} : VRs ρ vs xs → V.bels n vs = true → VRs (cutR n ρ) vs xs
  | .nil, _ => .nil
  | .cons h t, hp => by
    simp only [V.bels, Bool.and_eq_true] at hp
    exact .cons (VR.bel h hp.1) (VRs.bel t hp.2)
end

def pickT (n : Nat) (tm : List (Nat × V)) : List Nat → Option (List (Nat × V))
  | [] => some []
  | t :: ts => match lk tm t, pickT n tm ts with
    | some v, some r => bif V.bel n v then some ((t, v) :: r) else none
    | _, _ => none
def pickB (n : Nat) (bs : List (Nat × List V)) : List Nat → Option (List (Nat × List V))
  | [] => some []
  | t :: ts => match lk bs t, pickB n bs ts with
    | some v, some r => bif V.bels n v then some ((t, v) :: r) else none
    | _, _ => none
/-- The state, cut down to what is to be kept. -/
def canon (sl bl : List Nat) (nx : Nat) (s : St) : Option St :=
  match pickT nx s.tm sl, pickB nx s.mm.blks bl with
  | some tm, some bs => bif Nat.ble nx s.mm.nxt && Nat.ble s.mm.lo nx then some ⟨tm, s.n, ⟨bs, nx, s.mm.lo⟩⟩ else none
  | _, _ => none

theorem pickT_lk {n : Nat} {tm : List (Nat × V)} : ∀ {sl : List Nat} {r : List (Nat × V)}, pickT n tm sl = some r → ∀ t v, lk r t = some v → lk tm t = some v ∧ V.bel n v = true
  | [], r, h, t, v, hv => by simp [pickT] at h; subst h; simp [lk] at hv
  | u :: sl, r, h, t, v, hv => by
    simp only [pickT] at h
    split at h <;> try (cases h; done)
    rename_i x r' h1 h2
    cases hb : V.bel n x with
    | false => simp [hb] at h
    | true =>
      simp only [hb, cond_true, Option.some.injEq] at h
      subst h
      simp only [lk_cons] at hv
      by_cases hu : u = t
      · subst hu; simp at hv; subst hv; exact ⟨h1, hb⟩
      · rw [if_neg hu] at hv; exact pickT_lk h2 t v hv
theorem pickB_lk {n : Nat} {tm : List (Nat × List V)} : ∀ {sl : List Nat} {r : List (Nat × List V)}, pickB n tm sl = some r → ∀ t v, lk r t = some v → lk tm t = some v ∧ V.bels n v = true
  | [], r, h, t, v, hv => by simp [pickB] at h; subst h; simp [lk] at hv
  | u :: sl, r, h, t, v, hv => by
    simp only [pickB] at h
    split at h <;> try (cases h; done)
    rename_i x r' h1 h2
    cases hb : V.bels n x with
    | false => simp [hb] at h
    | true =>
      simp only [hb, cond_true, Option.some.injEq] at h
      subst h
      simp only [lk_cons] at hv
      by_cases hu : u = t
      · subst hu; simp at hv; subst hv; exact ⟨h1, hb⟩
      · rw [if_neg hu] at hv; exact pickB_lk h2 t v hv

theorem canon_rel {sl bl : List Nat} {nx : Nat} {s s' : St} (h : canon sl bl nx s = some s') {w0 : World} {ρ : Nat → Option Nat} {a : Act} {w : World} (hr : Rel w0 ρ s a w)
    (hlive : ∀ b cs, lk s'.mm.blks b = some cs → b < nx) : Rel w0 (cutR nx ρ) s' a w := by
  unfold canon at h
  split at h <;> try (cases h; done)
  rename_i tm bs h1 h2
  cases hb : (Nat.ble nx s.mm.nxt && Nat.ble s.mm.lo nx) with
  | false => simp [hb] at h
  | true =>
    simp only [hb, cond_true, Option.some.injEq] at h
    subst h
    simp only [Bool.and_eq_true] at hb
    have hle := Nat.le_of_ble_eq_true hb.1
    have hle2 := Nat.le_of_ble_eq_true hb.2
    have sub : ∀ b r, cutR nx ρ b = some r → ρ b = some r := fun b r h => by unfold cutR at h; split at h <;> first | exact h | cases h
    refine ⟨fun t v hv => ?_, hr.sz, hr.df, ⟨fun b cs hc => ?_, fun b b' r h1 h2 => hr.mr.inj b b' r (sub _ _ h1) (sub _ _ h2), fun b hb => ?_, fun b r h => hr.mr.dom b r (sub _ _ h), fun b r hb h => hr.mr.own b r hb (sub _ _ h), hr.mr.bel, hle2⟩⟩
    · obtain ⟨k1, k2⟩ := pickT_lk h1 t v hv
      obtain ⟨x, hx, hvx⟩ := hr.tm t v k1
      exact ⟨x, hx, hvx.bel k2⟩
    · obtain ⟨k1, k2⟩ := pickB_lk h2 b cs hc
      obtain ⟨r, xs, t, hr', hx, hv⟩ := hr.mr.blk b cs k1
      exact ⟨r, xs, t, by simp [cutR, hlive b cs hc, hr'], hx, hv.bel k2⟩
    · unfold cutR; rw [if_neg (by simpa using hb)]

inductive Lp (α : Type) where
  | again (x : α)
  | out (x : α)
def Lf {α : Type} (body : α → Tr (Lp α)) : Nat → α → Tr α
  | 0, _ => .bad
  | n + 1, x => (body x).bind fun y => match y with
    | .again z => Lf body n z
    | .out z => .leaf z

/-- What stands for a loop of which one round is known: 'sl', 'bl', 'nx': what is kept; 'rd', 'st': the state's numbers; 'e': how the loop is left. -/
def loopF {α : Type} (sl bl : List Nat) (nx : Nat) (rd : St → Option α) (st : α → St) (e : X) (G : α → Bool) (L : α → α) : LpF := fun A s K =>
  bif Nat.beq s.mm.nxt nx then match canon sl bl nx s with
    | some s1 => match rd s1 with
      | some x => bif G x then K e (st (L x)) else none
      | none => none
    | none => none
  else none

theorem loopF_ok {P : Program} {c : Code} {α : Type} {sl bl : List Nat} {nx : Nat} {rd : St → Option α} {st : α → St} {e : X} {G : α → Bool} {L : α → α} {body : α → Tr (Lp α)} {n : Nat}
    {t : Tb P} {lt : LT} (hne : e ≠ .norm)
    (hlt : ∀ c' ∈ loopsOf c, ∀ f, lt (key c') = some f → LoopOk P c' f)
    (hrd : ∀ s x, rd s = some x → s = st x)
    (hbl : ∀ x b cs, lk (st x).mm.blks b = some cs → b < nx)
    (hstep : ∀ x, evC (A := X × St) t.T (callk t.T (fun _ => t.drw) t.Es t.Bs t.N t.d) t.drw lt t.N c (st x) (fun z s' => match canon sl bl nx s' with
        | some s'' => some (z, s'')
        | none => none) = (body x).fold fun y => match y with
          | .again z => some (.norm, st z)
          | .out z => some (e, st z))
    (hG : ∀ x, G x = true → (Lf body n x).opt = some (L x)) : LoopOk P c (loopF sl bl nx rd st e G L) := by
  have rounds : ∀ n x y, (Lf body n x).opt = some y → ∀ (w0 : World) (ρ : Nat → Option Nat) (a : Act) (w : World) (Q : Exit → Act → World → Prop), Rel w0 ρ (st x) a w →
      (∀ ρ' a' w', (∀ b r, b < nx → ρ b = some r → ρ' b = some r) → Rel w0 ρ' (st y) a' w' → Q e.out a' w') → Code.rounds P c Q n a w := by
    intro n
    induction n with
    | zero => intro x y h; simp [Lf, Tr.opt] at h
    | succ n ih =>
      intro x y h w0 ρ a w Q hr hq
      rw [rounds_succ]
      simp only [Lf, Tr.opt_bind] at h
      have hs := hstep x
      rw [Tr.fold_opt] at hs
      split at h <;> try (cases h; done)
      rename_i z hz
      rw [hz] at hs
      cases z with
      | again z =>
        refine evC_sound (callk_ok (fun _ _ => t.draw_ok w0) t.d) (t.draw_ok w0) c hlt _ _ hs ρ a w _ hr fun q s' ρ' a' w' ext hr' hk => ?_
        dsimp only at hk
        split at hk <;> try (cases hk; done)
        rename_i s'' hc
        simp only [Option.some.injEq, Prod.mk.injEq] at hk
        obtain ⟨rfl, rfl⟩ := hk
        have hr'' := canon_rel hc hr' (hbl z)
        exact ih z y h w0 _ a' w' Q hr'' fun ρ'' a'' w'' k1 k2 => hq ρ'' a'' w'' (fun b r hb hbr => k1 b r hb (by simp [cutR, hb, ext b r hbr])) k2
      | out z =>
        simp only [Tr.opt, Option.some.injEq] at h
        subst h
        refine evC_sound (callk_ok (fun _ _ => t.draw_ok w0) t.d) (t.draw_ok w0) c hlt _ _ hs ρ a w _ hr fun q s' ρ' a' w' ext hr' hk => ?_
        dsimp only at hk
        split at hk <;> try (cases hk; done)
        rename_i s'' hc
        simp only [Option.some.injEq, Prod.mk.injEq] at hk
        obtain ⟨rfl, rfl⟩ := hk
        have hr'' := canon_rel hc hr' (hbl z)
        have hqq := hq _ a' w' (fun b r hb hbr => by simp [cutR, hb, ext b r hbr]) hr''
        cases q with
        | norm => exact absurd rfl hne
        | exit id => exact hqq
        | ret => exact hqq
  intro A w0 s K r h ρ a w Q hr hq
  unfold loopF at h
  cases hnx : Nat.beq s.mm.nxt nx with
  | false => simp [hnx] at h
  | true =>
    simp only [hnx, cond_true] at h
    have hnx' := Nat.eq_of_beq_eq_true hnx
    split at h <;> try (cases h; done)
    rename_i s1 hc
    split at h <;> try (cases h; done)
    rename_i x hx
    cases hg : G x with
    | false => simp [hg] at h
    | true =>
      simp only [hg, cond_true] at h
      have hs1 := hrd s1 x hx
      subst hs1
      have hr1 := canon_rel hc hr (hbl x)
      refine wp_loop_rounds n (rounds n x (L x) (hG x hg) w0 _ a w Q hr1 fun ρ' a' w' k1 k2 => hq e (st (L x)) ρ' a' w' (fun b r hb => ?_) k2 h)
      have hlt : b < nx := by
        rcases Nat.lt_or_ge b nx with h' | h'
        · exact h'
        · have := hr.mr.fresh b (by omega); rw [this] at hb; cases hb
      exact k1 b r hlt (by simp [cutR, hlt, hb])

end Go.Proofs.YtcfflflcbacapaaGreat.Ev
