/-
  A small evaluator for the program's code: regions, code, loops, calls, and their soundness.
-/
import Derived.Test.YtcfflflcbacapaaGreatEv3
namespace Go.Proofs.YtcfflflcbacapaaGreat.Ev
open Go Go.RowKit
set_option linter.unusedSimpArgs false
set_option linter.unusedVariables false

inductive X where
  | norm | exit (id : Nat) | ret
def X.out : X → Exit
  | .norm => .normal
  | .exit id => .exit id
  | .ret => .ret

def gdst (ops : List Oper) (j : Nat) : Option Nat :=
  match nth ops j with
  | some o => o.dst
  | none => none

section
variable {P : Program} {A : Type}

def opsk (T : List (TyE P)) (call : CallK A) (all : List Oper) : List Oper → St → (St → Option A) → Option A
  | [], s, K => K s
  | o :: rest, s, K =>
    let E : St → Option A := fun s => bif s.fits o.dst then opk T call s o (fun v m => opsk T call all rest (s.put o.dst v m) K) else none
    let S : St → Option A := fun s => bif s.fits o.dst then opsk T call all rest (s.put o.dst (.tup []) s.mm) K else none
    match o.guard with
    | none => E s
    | some (j, want) => match gdst all j with
      | some d => match lk s.tm d with
        | some (.bool b) => bif b then (bif want then E ⟨(d, .bool true) :: s.tm, s.n, s.mm⟩ else S ⟨(d, .bool true) :: s.tm, s.n, s.mm⟩)
            else (bif want then S ⟨(d, .bool false) :: s.tm, s.n, s.mm⟩ else E ⟨(d, .bool false) :: s.tm, s.n, s.mm⟩)
        | some (.tup []) => S s
        | _ => none
      | none => none

def loopk (ev : St → (X → St → Option A) → Option A) : Nat → St → (X → St → Option A) → Option A
  | 0, _, _ => none
  | n + 1, s, K => ev s fun x s' => match x with
    | .norm => loopk ev n s' K
    | x => K x s'

/-- A loop is known by the number of the first region in it. -/
def key : Code → Nat
  | .region id _ _ => id
  | .seq a _ => key a
  | .block _ a => key a
  | .loop a => key a
  | _ => 0
def loopsOf : Code → List Code
  | .seq a b => loopsOf a ++ loopsOf b
  | .cond _ a b => loopsOf a ++ loopsOf b
  | .block _ a => loopsOf a
  | .loop a => a :: loopsOf a
  | _ => []

/-- What stands for a loop: what it does to the state, told to what follows. -/
abbrev LpF := ∀ A : Type, St → (X → St → Option A) → Option A
abbrev LT := Nat → Option LpF

/-- Behind a branch the condition's slot is known. -/
def St.know (s : St) (c : Operand) (b : Bool) : St :=
  match c with
  | .tmp d => ⟨(d, .bool b) :: s.tm, s.n, s.mm⟩
  | _ => s

def evC (T : List (TyE P)) (call : CallK A) (drawk : List Oper → St → (St → Option A) → Option A) (lt : LT) (N : Nat) : Code → St → (X → St → Option A) → Option A
  | .skip, s, K => K .norm s
  | .ret, s, K => K .ret s
  | .exit id, s, K => K (.exit id) s
  | .seq a b, s, K => evC T call drawk lt N a s fun x s' => match x with
    | .norm => evC T call drawk lt N b s' K
    | x => K x s'
  | .cond c a b, s, K => match s.ev c with
    | some (.bool t) => bif t then evC T call drawk lt N a (s.know c true) K else evC T call drawk lt N b (s.know c false) K
    | _ => none
  | .block id c, s, K => evC T call drawk lt N c s fun x s' => match x with
    | .exit j => bif Nat.beq j id then K .norm s' else K (.exit j) s'
    | x => K x s'
  | .loop c, s, K => match lt (key c) with
    | some f => f A s K
    | none => loopk (evC T call drawk lt N c) N s K
  | .region _ ops draw, s, K => bif draw then drawk ops.toList s (K .norm) else opsk T call ops.toList ops.toList s (K .norm)
  | _, _, _ => none

/-! ### soundness -/
variable {w0 : World}

/-- What a run of the evaluator under a continuation leads to. -/
def Leads (P : Program) (w0 : World) (ρ : Nat → Option Nat) (K : X → St → Option A) (r : A) (Q : Exit → Act → World → Prop) : Prop :=
  ∀ x s' ρ' a' w', Ext ρ ρ' → Rel w0 ρ' s' a' w' → K x s' = some r → Q x.out a' w'

def DrawOk (P : Program) (w0 : World) (drawk : List Oper → St → (St → Option A) → Option A) : Prop :=
  ∀ (id : Nat) (ops : Array Oper) (s : St) (K : St → Option A) (r : A), drawk ops.toList s K = some r →
    ∀ (ρ : Nat → Option Nat) (a : Act) (w : World) (Q : Exit → Act → World → Prop), Rel w0 ρ s a w →
      (∀ s' ρ' a' w', Ext ρ ρ' → Rel w0 ρ' s' a' w' → K s' = some r → Q .normal a' w') → (Code.region id ops true).wp P Q a w

def LoopOk (P : Program) (c : Code) (f : LpF) : Prop :=
  ∀ (A : Type) (w0 : World) (s : St) (K : X → St → Option A) (r : A), f A s K = some r →
    ∀ (ρ : Nat → Option Nat) (a : Act) (w : World) (Q : Exit → Act → World → Prop), Rel w0 ρ s a w → Leads P w0 ρ K r Q → (Code.loop c).wp P Q a w

theorem Rel.set {ρ : Nat → Option Nat} {s : St} {a : Act} {w : World} (h : Rel w0 ρ s a w) {d : Nat} {v u : V} (hd : lk s.tm d = some v) (hu : ∀ x, VR ρ v x → VR ρ u x) :
    Rel w0 ρ ⟨(d, u) :: s.tm, s.n, s.mm⟩ a w := by
  refine ⟨fun t z hz => ?_, h.sz, h.df, h.mr⟩
  simp only [lk_cons] at hz
  by_cases hdt : d = t
  · subst hdt
    simp at hz; subst hz
    obtain ⟨x, hx, hr⟩ := h.tm d v hd
    exact ⟨x, hx, hu x hr⟩
  · rw [if_neg hdt] at hz; exact h.tm t z hz

theorem Rel.know {ρ : Nat → Option Nat} {s : St} {a : Act} {w : World} (h : Rel w0 ρ s a w) {c : Operand} {b : Bool} (hc : s.ev c = some (.bool b)) : Rel w0 ρ (s.know c b) a w := by
  unfold St.know
  split
  · rename_i d
    exact h.set (v := .bool b) (u := .bool b) hc (fun x hx => hx)
  · exact h

theorem opsk_sound {T : List (TyE P)} {call : CallK A} (hcall : CallOk P w0 call) {ops : Array Oper} {Q : Exit → Act → World → Prop} {r : A} :
    ∀ (l : List Oper) (s : St) (K : St → Option A), opsk T call ops.toList l s K = some r →
      ∀ (ρ : Nat → Option Nat) (a : Act) (w : World), Rel w0 ρ s a w →
        (∀ s' ρ' a' w', Ext ρ ρ' → Rel w0 ρ' s' a' w' → K s' = some r → Q .normal a' w') → wpList P ops Q l a w
  | [], s, K, h, ρ, a, w, hr, hq => hq s ρ a w (Ext.refl _) hr h
  | o :: rest, s, K, h, ρ, a, w, hr, hq => by
    have exec : ∀ s, Rel w0 ρ s a w → (bif s.fits o.dst then opk T call s o (fun v m => opsk T call ops.toList rest (s.put o.dst v m) K) else none) = some r →
        o.wp P a w (wpList P ops Q rest) Q := by
      intro s hr h
      cases hf : s.fits o.dst with
      | false => simp [hf] at h
      | true =>
        simp only [hf, cond_true] at h
        refine opk_sound hcall h hr fun v m' ρ' x w' e hv hm _ hk => ?_
        exact opsk_sound hcall rest _ K hk ρ' _ w' (hr.put e hv hf hm) fun s' ρ'' a' w'' e' h1 h2 => hq s' ρ'' a' w'' (e.trans e') h1 h2
    have skip : ∀ s, Rel w0 ρ s a w → (bif s.fits o.dst then opsk T call ops.toList rest (s.put o.dst (.tup []) s.mm) K else none) = some r →
        wpList P ops Q rest (a.put o.dst undef) w := by
      intro s hr h
      cases hf : s.fits o.dst with
      | false => simp [hf] at h
      | true =>
        simp only [hf, cond_true] at h
        exact opsk_sound hcall rest _ K h ρ _ w (hr.put (Ext.refl _) (.tup (xs := []) .nil) hf hr.mr) hq
    simp only [wpList]
    simp only [opsk] at h
    split at h
    · rename_i hg
      have hw : Region.wanted o (yielded ops a.tmps) = true := by simp [Region.wanted, hg]
      rw [if_pos hw]
      exact .inl (exec s hr h)
    · rename_i j want hg
      split at h <;> try (cases h; done)
      rename_i d hd
      have hd' : (ops[j]?).bind (·.dst) = some d := by
        unfold gdst at hd
        rw [nth_eq] at hd
        cases ho : ops.toList[j]? with
        | none => simp [ho] at hd
        | some oj => simp [ho] at hd; simp at ho; simp [ho, hd]
      have hwant : ∀ x, a.tmps[d]? = some x → Region.wanted o (yielded ops a.tmps) = ((match x with | .bool b => some b | _ => none) == some want) := by
        intro x hx
        simp only [Region.wanted, hg, yielded, hd', Option.bind_some, hx]
        cases x <;> rfl
      split at h <;> try (cases h; done)
      · rename_i b hb
        obtain ⟨x, hx, hvx⟩ := hr.tm d _ hb
        cases hvx
        have hw := hwant _ hx
        cases b with
        | true =>
          simp only [cond_true] at h
          have hr' := hr.set (u := .bool true) hb (fun x hx => hx)
          cases want with
          | true =>
            simp only [cond_true] at h
            rw [if_pos (by rw [hw]; rfl)]
            exact .inl (exec _ hr' h)
          | false =>
            simp only [cond_false] at h
            rw [if_neg (by rw [hw]; decide)]
            exact skip _ hr' h
        | false =>
          simp only [cond_false] at h
          have hr' := hr.set (u := .bool false) hb (fun x hx => hx)
          cases want with
          | true =>
            simp only [cond_true] at h
            rw [if_neg (by rw [hw]; decide)]
            exact skip _ hr' h
          | false =>
            simp only [cond_false] at h
            rw [if_pos (by rw [hw]; rfl)]
            exact .inl (exec _ hr' h)
      · rename_i hb
        obtain ⟨x, hx, hvx⟩ := hr.tm d _ hb
        cases hvx
        have hw := hwant _ hx
        rw [if_neg (by rw [hw]; simp)]
        exact skip _ hr h

theorem loopk_sound {c : Code} {ev : St → (X → St → Option A) → Option A} {r : A} {Q : Exit → Act → World → Prop}
    (hev : ∀ (s : St) (K : X → St → Option A), ev s K = some r → ∀ (ρ : Nat → Option Nat) (a : Act) (w : World) (Q : Exit → Act → World → Prop), Rel w0 ρ s a w → Leads P w0 ρ K r Q → c.wp P Q a w) :
    ∀ (n : Nat) (s : St) (K : X → St → Option A), loopk ev n s K = some r →
      ∀ (ρ : Nat → Option Nat) (a : Act) (w : World), Rel w0 ρ s a w → Leads P w0 ρ K r Q → Code.rounds P c Q n a w
  | 0, s, K, h, ρ, a, w, hr, hq => by simp [loopk] at h
  | n + 1, s, K, h, ρ, a, w, hr, hq => by
    simp only [loopk] at h
    rw [rounds_succ]
    refine hev s _ h ρ a w _ hr fun x s' ρ' a' w' e hr' hk => ?_
    cases x with
    | norm => exact loopk_sound hev n s' K hk ρ' a' w' hr' fun x s'' ρ'' a'' w'' e' h1 h2 => hq x s'' ρ'' a'' w'' (e.trans e') h1 h2
    | exit id => exact hq (.exit id) s' ρ' a' w' e hr' hk
    | ret => exact hq .ret s' ρ' a' w' e hr' hk

theorem evC_sound {T : List (TyE P)} {call : CallK A} (hcall : CallOk P w0 call) {drawk : List Oper → St → (St → Option A) → Option A} (hdraw : DrawOk P w0 drawk) {lt : LT} {N : Nat} {r : A} :
    ∀ (c : Code), (∀ c' ∈ loopsOf c, ∀ f, lt (key c') = some f → LoopOk P c' f) → ∀ (s : St) (K : X → St → Option A), evC T call drawk lt N c s K = some r →
      ∀ (ρ : Nat → Option Nat) (a : Act) (w : World) (Q : Exit → Act → World → Prop), Rel w0 ρ s a w → Leads P w0 ρ K r Q → c.wp P Q a w := by
  intro c
  induction c with
  | skip => intro _ s K h ρ a w Q hr hq; exact wp_skip (hq .norm s ρ a w (Ext.refl _) hr h)
  | ret => intro _ s K h ρ a w Q hr hq; exact wp_ret (hq .ret s ρ a w (Ext.refl _) hr h)
  | exit id => intro _ s K h ρ a w Q hr hq; exact wp_exit (hq (.exit id) s ρ a w (Ext.refl _) hr h)
  | seq x y ihx ihy =>
    intro hl s K h ρ a w Q hr hq
    simp only [evC] at h
    refine wp_seq (ihx (fun c' hc => hl c' (by simp [loopsOf, hc])) s _ h ρ a w _ hr fun z s' ρ' a' w' e hr' hk => ?_)
    cases z with
    | norm => exact ihy (fun c' hc => hl c' (by simp [loopsOf, hc])) s' K hk ρ' a' w' Q hr' fun z s'' ρ'' a'' w'' e' h1 h2 => hq z s'' ρ'' a'' w'' (e.trans e') h1 h2
    | exit id => exact hq (.exit id) s' ρ' a' w' e hr' hk
    | ret => exact hq .ret s' ρ' a' w' e hr' hk
  | cond c x y ihx ihy =>
    intro hl s K h ρ a w Q hr hq
    simp only [evC] at h
    split at h <;> try (cases h; done)
    rename_i t ht
    have hv := hr.ev ht
    cases hc : a.eval c <;> rw [hc] at hv <;> cases hv
    refine wp_cond hc ?_
    have hr1 := hr.know ht
    cases t with
    | true => exact ihx (fun c' hc => hl c' (by simp [loopsOf, hc])) (s.know c true) K (by simpa using h) ρ a w Q hr1 hq
    | false => exact ihy (fun c' hc => hl c' (by simp [loopsOf, hc])) (s.know c false) K (by simpa using h) ρ a w Q hr1 hq
  | block id x ih =>
    intro hl s K h ρ a w Q hr hq
    simp only [evC] at h
    refine wp_block (ih (fun c' hc => hl c' (by simpa [loopsOf] using hc)) s _ h ρ a w _ hr fun z s' ρ' a' w' e hr' hk => ?_)
    cases z with
    | norm => exact hq .norm s' ρ' a' w' e hr' hk
    | ret => exact hq .ret s' ρ' a' w' e hr' hk
    | exit j =>
      simp only [X.out, Exit.inBlock]
      cases hj : Nat.beq j id with
      | true =>
        simp only [hj, cond_true] at hk
        rw [if_pos (Nat.eq_of_beq_eq_true hj)]
        exact hq .norm s' ρ' a' w' e hr' hk
      | false =>
        simp only [hj, cond_false] at hk
        rw [if_neg (fun hh => by rw [hh] at hj; simp at hj)]
        exact hq (.exit j) s' ρ' a' w' e hr' hk
  | loop x ih =>
    intro hl s K h ρ a w Q hr hq
    simp only [evC] at h
    split at h
    · rename_i f hf
      exact hl x (by simp [loopsOf]) f hf A w0 s K r h ρ a w Q hr hq
    · refine wp_loop_rounds N (loopk_sound (fun s K h ρ a w Q hr hq => ih (fun c' hc => hl c' (by simp [loopsOf, hc])) s K h ρ a w Q hr hq) N s K h ρ a w hr hq)
  | region id ops draw =>
    intro hl s K h ρ a w Q hr hq
    simp only [evC] at h
    cases draw with
    | true =>
      simp only [cond_true] at h
      exact hdraw id ops s _ r h ρ a w Q hr fun s' ρ' a' w' e hr' hk => hq .norm s' ρ' a' w' e hr' hk
    | false =>
      simp only [cond_false] at h
      exact wp_region_list (opsk_sound hcall ops.toList s _ h ρ a w hr fun s' ρ' a' w' e hr' hk => hq .norm s' ρ' a' w' e hr' hk)
  | _ => intro _ s K h; simp [evC] at h

/-! ### calls -/
def Does (P : Program) (f : Nat) (xs : Array Value) (w : World) (R : Value → World → Prop) : Prop :=
  ∀ (o : Oper) (a : Act) (next : Act → World → Prop) (Q : Exit → Act → World → Prop), (∀ x w', R x w' → next (a.put o.dst x) w') →
    o.upon P a next Q ((callFunc f xs).run P w)
theorem Does.mono {f : Nat} {xs : Array Value} {w : World} {R R' : Value → World → Prop} (h : Does P f xs w R) (k : ∀ x w', R x w' → R' x w') : Does P f xs w R' :=
  fun o a next Q hn => h o a next Q fun x w' hx => hn x w' (k x w' hx)

/-- A function with a known answer. -/
structure Ent (P : Program) where
  id : Nat
  g : List V → List (Nat × List V) → Bool
  fn : List V → List (Nat × List V) → Option V
  ok : ∀ (vs : List V) (m : Mem) (v : V), g vs m.blks = true → fn vs m.blks = some v →
    ∀ (w0 : World) (ρ : Nat → Option Nat) (xs : List Value) (w : World), VRs ρ vs xs → MRel w0 ρ m w →
      Does P id xs.toArray w fun x w' => VR ρ v x ∧ Below w.heap.size w w'

def entf {P : Program} : List (Ent P) → Nat → Option (Ent P)
  | [], _ => none
  | e :: t, i => bif Nat.beq e.id i then some e else entf t i
theorem entf_id {T : List (Ent P)} {i : Nat} {e : Ent P} (h : entf T i = some e) : e.id = i := by
  induction T with
  | nil => simp [entf] at h
  | cons x T ih =>
    simp only [entf] at h
    cases hb : Nat.beq x.id i with
    | true => simp [hb] at h; subst h; simpa using hb
    | false => simp [hb] at h; exact ih h

structure Loops (P : Program) (code : Code) where
  lt : LT
  ok : ∀ c' ∈ loopsOf code, ∀ f, lt (key c') = some f → LoopOk P c' f
def Loops.no (P : Program) (code : Code) : Loops P code := ⟨fun _ => none, fun _ _ _ h => by cases h⟩

/-- A function whose body is walked in place. -/
structure Bod (P : Program) where
  id : Nat
  fn : Func
  code : Code
  hf : P.funcs[id]? = some fn
  hb : fn.body = some code
  hn : (fn.name == "runtime.NumGoroutine") = false
  lp : Loops P code

def bodf {P : Program} : List (Bod P) → Nat → Option (Bod P)
  | [], _ => none
  | e :: t, i => bif Nat.beq e.id i then some e else bodf t i
theorem bodf_id {T : List (Bod P)} {i : Nat} {e : Bod P} (h : bodf T i = some e) : e.id = i := by
  induction T with
  | nil => simp [bodf] at h
  | cons x T ih =>
    simp only [bodf] at h
    cases hb : Nat.beq x.id i with
    | true => simp [hb] at h; subst h; simpa using hb
    | false => simp [hb] at h; exact ih h

def zipF : Nat → List V → List (Nat × V)
  | _, [] => []
  | i, v :: vs => (i, v) :: zipF (i + 1) vs

def resv (T : List (TyE P)) (s : St) : List ResultVar → Option (List V)
  | [] => some []
  | .tmp t :: rs => match lk s.tm t, resv T s rs with
    | some v, some vs => some (v :: vs)
    | _, _ => none
  | .cell t ty :: rs => match lk s.tm t, tyf T ty with
    | some (.ptr b o), some e => match isAggK e.kd with
      | some true => match s.mm.load b o e.size, resv T s rs with
        | some cs, some vs => some (.agg cs :: vs)
        | _, _ => none
      | some false => match s.mm.load1 b o, resv T s rs with
        | some v, some vs => some (v :: vs)
        | _, _ => none
      | none => none
    | _, _ => none
def oneV : List V → V
  | [v] => v
  | vs => .tup vs

def runk (T : List (TyE P)) (call : CallK A) (drawk : List Oper → St → (St → Option A) → Option A) (N : Nat) (b : Bod P) (vs : List V) (m : Mem) (K : V → Mem → Option A) : Option A :=
  bif Nat.ble vs.length b.fn.ntmps then
    evC T call drawk b.lp.lt N b.code ⟨zipF 0 vs, b.fn.ntmps, m⟩ fun x s => match x with
      | .exit _ => none
      | _ => match resv T s b.fn.results.toList with
        | some us => K (oneV us) s.mm
        | none => none
  else none

def resOne (tmps : Array Value) : ResultVar → Sem Value
  | .tmp t => pure (tmps.getD t undef)
  | .cell a t => do loadVar t (← asAddr (tmps.getD a undef))
theorem resv_run {T : List (TyE P)} {ρ : Nat → Option Nat} {s : St} {a : Act} {w : World} (h : Rel w0 ρ s a w) : ∀ (rs : List ResultVar) (vs : List V), resv T s rs = some vs →
    ∃ xs, (rs.mapM (resOne a.tmps)).run P w = .ok xs w ∧ VRs ρ vs xs
  | [], vs, hv => by simp [resv] at hv; subst hv; exact ⟨[], by simp, .nil⟩
  | .tmp t :: rs, vs, hv => by
    simp only [resv] at hv
    split at hv <;> try (cases hv; done)
    rename_i v us h1 h2
    cases hv
    obtain ⟨x, hx, hvx⟩ := h.tm t v h1
    obtain ⟨xs, h3, h4⟩ := resv_run h rs us h2
    exact ⟨x :: xs, by simp only [List.mapM_cons, resOne, Sem.run_bind, Sem.run_pure, Result.andThen_ok, h3]; simp [hx], .cons hvx h4⟩
  | .cell t ty :: rs, vs, hv => by
    simp only [resv] at hv
    split at hv <;> try (cases hv; done)
    rename_i b o e h1 he
    have hid := tyf_id he
    obtain ⟨x, hx, hvx⟩ := h.tm t _ h1
    cases hvx
    rename_i r hr
    have hget : a.tmps.getD t undef = .pointer (some ⟨r, o, none⟩) := by simp [hx]
    split at hv <;> try (cases hv; done)
    · rename_i hagg
      split at hv <;> try (cases hv; done)
      rename_i cs us hcs hus
      cases hv
      obtain ⟨r', ys, hr', hl, hvl⟩ := h.mr.load (P := P) hcs
      rw [hr] at hr'; cases hr'
      have e1 := e.run_agg hagg w
      have e2 := e.run_size w
      rw [hid] at e1 e2
      obtain ⟨xs, h3, h4⟩ := resv_run h rs us hus
      exact ⟨.agg ys.toArray :: xs, by simp only [List.mapM_cons, resOne, Sem.run_bind, hget, asAddr, Sem.run_pure, Result.andThen_ok, loadVar, e1, e2, if_true, hl, h3], .cons (.agg hvl) h4⟩
    · rename_i hagg
      split at hv <;> try (cases hv; done)
      rename_i v us hcs hus
      cases hv
      obtain ⟨r', y, hr', hc, hvl⟩ := h.mr.load1 hcs
      rw [hr] at hr'; cases hr'
      have e1 := e.run_agg hagg w
      rw [hid] at e1
      obtain ⟨xs, h3, h4⟩ := resv_run h rs us hus
      exact ⟨y :: xs, by simp only [List.mapM_cons, resOne, Sem.run_bind, hget, asAddr, Sem.run_pure, Result.andThen_ok, loadVar, e1, Bool.false_eq_true, if_false, run_load, hc, h3], .cons hvl h4⟩

theorem results_run {T : List (TyE P)} {ρ : Nat → Option Nat} {s : St} {a : Act} {w : World} (h : Rel w0 ρ s a w) {fn : Func} {vs : List V} (hv : resv T s fn.results.toList = some vs) :
    ∃ x, (results fn a.tmps).run P w = .ok x w ∧ VR ρ (oneV vs) x := by
  obtain ⟨xs, h1, h2⟩ := resv_run h _ _ hv
  have hm : (fn.results.mapM (resOne a.tmps)).run P w = .ok xs.toArray w := by
    rw [Array.mapM_eq_mapM_toList, Sem.run_map, h1]; rfl
  have hl := h2.length
  have hres : results fn a.tmps = (do
      let vs ← fn.results.mapM (resOne a.tmps)
      pure (if h : vs.size = 1 then vs[0] else .tuple vs)) := by
    unfold results
    congr 1
  rw [hres]
  simp only [Sem.run_bind]
  rw [hm]
  simp only [Result.andThen_ok, Sem.run_pure]
  match vs, h2 with
  | [], .nil => exact ⟨_, rfl, .tup (xs := []) .nil⟩
  | [v], .cons hv .nil => exact ⟨_, rfl, hv⟩
  | v :: u :: vs, .cons (x := x) hv (.cons (x := y) (xs := ys) hu ht) =>
    refine ⟨_, rfl, ?_⟩
    rw [dif_neg (by simp)]
    exact .tup (.cons hv (.cons hu ht))

theorem zipF_lk {ρ : Nat → Option Nat} : ∀ (vs : List V) (xs : List Value) (i t : Nat) (v : V), VRs ρ vs xs → lk (zipF i vs) t = some v → ∃ x, i ≤ t ∧ xs[t - i]? = some x ∧ VR ρ v x
  | [], _, _, _, _, _, h => by simp [zipF, lk] at h
  | u :: vs, xs, i, t, v, hv, h => by
    cases hv with
    | cons hv ht =>
      rename_i x xt
      simp only [zipF, lk_cons] at h
      by_cases hi : i = t
      · subst hi; simp at h; subst h; exact ⟨x, Nat.le_refl _, by simp, hv⟩
      · rw [if_neg hi] at h
        obtain ⟨y, h1, h2, h3⟩ := zipF_lk vs xt (i + 1) t v ht h
        exact ⟨y, by omega, by rw [show t - i = (t - (i + 1)) + 1 by omega]; simpa using h2, h3⟩

theorem callFunc_enter {b : Bod P} (args : Array Value) (w : World) : (callFunc b.id args).run P w = .ok (.enter b.id args) w := by
  have hn : b.fn.name ≠ "runtime.NumGoroutine" := by simpa using b.hn
  simp [callFunc, b.hf, hn, b.hb]

theorem runk_sound {T : List (TyE P)} {call : CallK A} (hcall : CallOk P w0 call) {drawk : List Oper → St → (St → Option A) → Option A} (hdraw : DrawOk P w0 drawk) {N : Nat} {b : Bod P} {vs : List V} {m : Mem}
    {K : V → Mem → Option A} {r : A} (h : runk T call drawk N b vs m K = some r) {ρ : Nat → Option Nat} {xs : List Value} {w : World} (hv : VRs ρ vs xs) (hm : MRel w0 ρ m w) :
    Calls P b.id xs.toArray w fun e w' => ∃ v m' ρ' x, e = .returned x ∧ Ext ρ ρ' ∧ VR ρ' v x ∧ MRel w0 ρ' m' w' ∧ K v m' = some r := by
  unfold runk at h
  cases hle : Nat.ble vs.length b.fn.ntmps with
  | false => simp [hle] at h
  | true =>
    simp only [hle, cond_true] at h
    have hle' := Nat.le_of_ble_eq_true hle
    have hl := hv.length
    refine calls_of_wp b.hf b.hb (evC_sound hcall hdraw b.code b.lp.ok _ _ h ρ _ w _ ⟨fun t v ht => ?_, by simp; omega, rfl, hm⟩ ?_)
    · obtain ⟨x, _, h1, h2⟩ := zipF_lk vs xs 0 t v hv ht
      refine ⟨x, ?_, h2⟩
      have hlt : t < xs.length := by
        rcases Nat.lt_or_ge t xs.length with h | h
        · exact h
        · simp [List.getElem?_eq_none h] at h1
      have h1' : xs[t]? = some x := by simpa using h1
      simp only [Array.getElem?_append, List.size_toArray, hlt, if_true, List.getElem?_toArray, h1']
    · intro x s' ρ' a' w' e hr hk
      have fin : (match resv T s' b.fn.results.toList with
          | some us => K (oneV us) s'.mm
          | none => none) = some r → a'.defers = [] ∧ ∃ v, (results b.fn a'.tmps).run P w' = .ok v w' ∧
            ∃ v_1 m' ρ' x, Ending.returned v = .returned x ∧ Ext ρ ρ' ∧ VR ρ' v_1 x ∧ MRel w0 ρ' m' w' ∧ K v_1 m' = some r := by
        intro hk
        split at hk <;> try (cases hk; done)
        rename_i us hus
        obtain ⟨y, h1, h2⟩ := results_run (P := P) hr hus
        exact ⟨hr.df, y, h1, _, _, ρ', y, rfl, e, h2, hr.mr, hk⟩
      cases x with
      | norm => exact fin hk
      | ret => exact fin hk
      | exit id => cases hk

def callk (T : List (TyE P)) (drawk : CallK A → List Oper → St → (St → Option A) → Option A) (Es : List (Ent P)) (Bs : List (Bod P)) (N : Nat) : Nat → CallK A
  | 0, f, vs, m, K => match entf Es f with
    | some e => bif e.g vs m.blks then match e.fn vs m.blks with
        | some v => K v m
        | none => none
      else none
    | none => none
  | d + 1, f, vs, m, K => match entf Es f with
    | some e => bif e.g vs m.blks then match e.fn vs m.blks with
        | some v => K v m
        | none => none
      else none
    | none => match bodf Bs f with
      | some b => runk T (callk T drawk Es Bs N d) (drawk (callk T drawk Es Bs N d)) N b vs m K
      | none => none

theorem ent_ok {Es : List (Ent P)} {f : Nat} {vs : List V} {m : Mem} {K : V → Mem → Option A} {r : A} {e : Ent P} (he : entf Es f = some e)
    (h : (bif e.g vs m.blks then match e.fn vs m.blks with
        | some v => K v m
        | none => none
      else none) = some r) {ρ : Nat → Option Nat} {xs : List Value} {w : World} (hv : VRs ρ vs xs) (hm : MRel w0 ρ m w)
    (o : Oper) (a : Act) (next : Act → World → Prop) (Q : Exit → Act → World → Prop)
    (hn : ∀ v m' ρ' x w', Ext ρ ρ' → VR ρ' v x → MRel w0 ρ' m' w' → K v m' = some r → next (a.put o.dst x) w') : o.upon P a next Q ((callFunc f xs.toArray).run P w) := by
  have hid := entf_id he
  cases hg : e.g vs m.blks with
  | false => simp [hg] at h
  | true =>
    simp only [hg, cond_true] at h
    split at h <;> try (cases h; done)
    rename_i v hv'
    have := e.ok vs m v hg hv' w0 ρ xs w hv hm
    rw [hid] at this
    exact this o a next Q fun x w' ⟨h1, h2⟩ => hn v m ρ x w' (Ext.refl _) h1 (hm.below h2) h

theorem callk_ok {T : List (TyE P)} {drawk : CallK A → List Oper → St → (St → Option A) → Option A} (hdraw : ∀ call, CallOk P w0 call → DrawOk P w0 (drawk call)) {Es : List (Ent P)} {Bs : List (Bod P)} {N : Nat} :
    ∀ d, CallOk P w0 (callk T drawk Es Bs N d)
  | 0 => fun f vs m K r h ρ xs w hv hm o a next Q hn => by
    simp only [callk] at h
    split at h <;> try (cases h; done)
    rename_i e he
    exact ent_ok he h hv hm o a next Q hn
  | d + 1 => fun f vs m K r h ρ xs w hv hm o a next Q hn => by
    simp only [callk] at h
    split at h
    · rename_i e he
      exact ent_ok he h hv hm o a next Q hn
    · split at h <;> try (cases h; done)
      rename_i b hb
      have hid := bodf_id hb
      subst hid
      have ih := callk_ok (T := T) hdraw (Es := Es) (Bs := Bs) (N := N) d
      rw [callFunc_enter, Oper.upon_enter]
      refine (runk_sound ih (hdraw _ ih) h hv hm).mono fun e w' he => ?_
      obtain ⟨v, m', ρ', x, rfl, h1, h2, h3, h4⟩ := he
      exact hn v m' ρ' x w' h1 h2 h3 h4

end
end Go.Proofs.YtcfflflcbacapaaGreat.Ev
