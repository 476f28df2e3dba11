/-
  A small evaluator for the program's code: regions that draw their order: one walk in the text's order serves every order.
-/
import Derived.Test.YtcfflflcbacapaaGreatEv4
namespace Go.Proofs.YtcfflflcbacapaaGreat.Ev
open Go Go.RowKit
set_option linter.unusedSimpArgs false
set_option linter.unusedVariables false

/-- What one operation of the region leaves. -/
inductive Eff where
  | val (v : V) (rd : List Nat)
  | new (cs : List V)
  | st (b : Nat) (cs : List V)

section
variable {P : Program}

def hasN : List Nat → Nat → Bool
  | [], _ => false
  | a :: t, b => Nat.beq a b || hasN t b
theorem hasN_iff {l : List Nat} {b : Nat} : hasN l b = true ↔ b ∈ l := by
  induction l with
  | nil => simp [hasN]
  | cons a t ih => simp [hasN, ih]; constructor <;> (rintro (h | h) <;> simp_all)
/-- The blocks that a call's pointers lead to. -/
def ptrsOf : List V → List Nat
  | [] => []
  | .ptr b _ :: t => b :: ptrsOf t
  | _ :: t => ptrsOf t
theorem ptrsOf_VRs {ρ : Nat → Option Nat} {b : Nat} : ∀ {vs : List V} {xs : List Value}, hasN (ptrsOf vs) b = true → VRs ρ vs xs → ∃ r, ρ b = some r
  | [], _, h, _ => by simp [ptrsOf, hasN] at h
  | v :: vs, xs, h, hv => by
    cases hv with
    | cons h1 ht =>
      cases v <;> simp only [ptrsOf] at h <;> first
        | exact ptrsOf_VRs h ht
        | (simp only [hasN, Bool.or_eq_true] at h
           rcases h with h | h
           · have := Nat.eq_of_beq_eq_true h; subst this; cases h1; rename_i r hr; exact ⟨r, hr⟩
           · exact ptrsOf_VRs h ht)
def manyL (blks : List (Nat × List V)) : List Nat → List (Nat × List V)
  | [] => []
  | b :: t => match lk blks b with
    | some cs => (b, cs) :: manyL blks t
    | none => manyL blks t
theorem manyL_lk {blks : List (Nat × List V)} : ∀ {l : List Nat} {b : Nat} {cs : List V}, lk (manyL blks l) b = some cs → lk blks b = some cs ∧ hasN l b = true
  | [], b, cs, h => by simp [manyL, lk] at h
  | x :: l, b, cs, h => by
    simp only [manyL] at h
    split at h
    · rename_i cs' hc
      simp only [lk_cons] at h
      by_cases hx : x = b
      · subst hx; simp at h; subst h; exact ⟨hc, by simp [hasN]⟩
      · rw [if_neg hx] at h
        obtain ⟨h1, h2⟩ := manyL_lk h
        exact ⟨h1, by simp [hasN, h2]⟩
    · obtain ⟨h1, h2⟩ := manyL_lk h
      exact ⟨h1, by simp [hasN, h2]⟩
def manyB (blks : List (Nat × List V)) (vs : List V) : List (Nat × List V) := manyL blks (ptrsOf vs)
/-- A call whose answer hangs on its arguments alone, and on one block that they lead to. -/
def callD (Es : List (Ent P)) : CallK V := fun f vs m K => match entf Es f with
  | some e => bif e.g vs (manyB m.blks vs) then match e.fn vs (manyB m.blks vs) with
      | some v => K v m
      | none => none
    else none
  | none => none

/-- The block that an operation reads. -/
def rdOf (s : St) (o : Oper) : List Nat := match o.op with
  | .load _ x => match s.ev x with
    | some (.ptr b _) => [b]
    | _ => []
  | .call c => match c.callee with
    | .value f => match s.ev f, s.evs c.args.toList with
      | some (.fn _ caps), some vs => ptrsOf (vs ++ caps)
      | _, _ => []
    | _ => []
  | _ => []

def effOf (T : List (TyE P)) (Es : List (Ent P)) (s : St) (o : Oper) : Option Eff :=
  match o.op with
  | .alloc t => match tyf T t with
    | some e => some (.new e.zero)
    | none => none
  | .box _ x => match s.ev x with
    | some v => some (.new v.cells)
    | none => none
  | .store t x y => match tyf T t, s.ev x, s.ev y with
    | some e, some (.ptr b off), some v => bif Nat.beq v.cells.length e.size && Nat.blt b s.mm.nxt then match s.mm.store b off v.cells with
        | some m => match lk m.blks b with
          | some cs => some (.st b cs)
          | none => none
        | none => none
      else none
    | _, _, _ => none
  | .buildSlice _ _ _ => none
  | _ => match opk T (callD Es) s o (fun v _ => some v) with
    | some v => some (.val v (rdOf s o))
    | none => none

def St.eff (s : St) (d : Option Tmp) : Eff → St
  | .val v _ => s.put d v s.mm
  | .new cs => s.put d (.ptr s.mm.nxt 0) (s.mm.new cs)
  | .st b cs => s.put d (.tup []) ⟨(b, cs) :: s.mm.blks, s.mm.nxt, s.mm.lo⟩

def drawR (T : List (TyE P)) (Es : List (Ent P)) : List Oper → St → Option (List Eff × St)
  | [], s => some ([], s)
  | o :: rest, s => match o.guard with
    | some _ => none
    | none => bif s.fits o.dst then match effOf T Es s o with
        | some e => match drawR T Es rest (s.eff o.dst e) with
          | some (es, s') => some (e :: es, s')
          | none => none
        | none => none
      else none

def looksT (o : Oper) : List Nat := o.op.operands.toList.filterMap fun | .tmp t => some t | _ => none
def meets (d : Option Nat) (l : List Nat) : Bool := match d with
  | some d => hasN l d
  | none => false
def isLd (o : Oper) : Bool := match o.op with
  | .load _ _ => true
  | _ => false
/-- A store to a block that the other one reads. -/
def hits : Eff → Eff → Bool
  | .val _ l, .st b _ => hasN l b
  | .st b _, .val _ l => hasN l b
  | _, _ => false
def clash (a b : Oper) (ea eb : Eff) : Bool :=
  (match a.dst, b.dst with
    | some x, some y => Nat.beq x y
    | _, _ => false) ||
  (match ea, eb with
    | .st x _, .st y _ => Nat.beq x y
    | _, _ => false)
def confl (a b : Oper) (ea eb : Eff) : Bool :=
  meets a.dst (looksT b) || meets b.dst (looksT a) || hits ea eb
def linked (b : Oper) (i : Nat) : Bool := b.after.toList.any fun e => Nat.beq e.on i && Region.binds .any e
def okPair (i : Nat) (a : Oper) (ea : Eff) (b : Oper) (eb : Eff) : Bool := !clash a b ea eb && (!confl a b ea eb || linked b i)
def okRest (i : Nat) (a : Oper) (ea : Eff) : List Oper → List Eff → Bool
  | b :: bs, eb :: es => okPair i a ea b eb && okRest i a ea bs es
  | _, _ => true
def okAll : Nat → List Oper → List Eff → Bool
  | i, a :: os, ea :: es => a.after.toList.all (fun e => !Region.binds .any e || Nat.blt e.on i) && okRest i a ea os es && okAll (i + 1) os es
  | _, _, _ => true

def drawk {A : Type} (T : List (TyE P)) (Es : List (Ent P)) (ops : List Oper) (s : St) (K : St → Option A) : Option A :=
  match drawR T Es ops s with
  | some (es, s') => bif okAll 0 ops es then K s' else none
  | none => none

/-! ### soundness -/
theorem drawR_len {T : List (TyE P)} {Es : List (Ent P)} : ∀ {os : List Oper} {s s' : St} {es : List Eff}, drawR T Es os s = some (es, s') → es.length = os.length
  | [], s, s', es, h => by simp [drawR] at h; simp [← h.1]
  | o :: os, s, s', es, h => by
    simp only [drawR] at h
    split at h <;> try (cases h; done)
    cases hf : s.fits o.dst with
    | false => simp [hf] at h
    | true =>
      simp only [hf, cond_true] at h
      split at h <;> try (cases h; done)
      split at h <;> try (cases h; done)
      rename_i hr
      simp only [Option.some.injEq, Prod.mk.injEq] at h
      obtain ⟨rfl, rfl⟩ := h
      simp [drawR_len hr]

theorem okRest_spec {i : Nat} {a : Oper} {ea : Eff} : ∀ {os : List Oper} {es : List Eff} (k : Nat) {b : Oper} {eb : Eff}, okRest i a ea os es = true → os[k]? = some b → es[k]? = some eb → okPair i a ea b eb = true
  | [], _, k, b, eb, _, h, _ => by simp at h
  | _ :: _, [], k, b, eb, _, _, h => by simp at h
  | o :: os, e :: es, 0, b, eb, h, h1, h2 => by
    simp only [okRest, Bool.and_eq_true] at h
    simp at h1 h2; subst h1; subst h2; exact h.1
  | o :: os, e :: es, k + 1, b, eb, h, h1, h2 => by
    simp only [okRest, Bool.and_eq_true] at h
    exact okRest_spec k h.2 (by simpa using h1) (by simpa using h2)
theorem okAll_spec : ∀ {os : List Oper} {es : List Eff} {i0 : Nat}, okAll i0 os es = true → ∀ (i j : Nat) {a b : Oper} {ea eb : Eff}, i < j → os[i]? = some a → es[i]? = some ea → os[j]? = some b → es[j]? = some eb →
    okPair (i0 + i) a ea b eb = true
  | [], _, i0, h, i, j, a, b, ea, eb, _, h1, _, _, _ => by simp at h1
  | _ :: _, [], i0, h, i, j, a, b, ea, eb, _, _, h1, _, _ => by simp at h1
  | o :: os, e :: es, i0, h, 0, j, a, b, ea, eb, hij, h1, h2, h3, h4 => by
    simp only [okAll, Bool.and_eq_true] at h
    simp at h1 h2; subst h1; subst h2
    obtain ⟨k, rfl⟩ : ∃ k, j = k + 1 := ⟨j - 1, by omega⟩
    exact okRest_spec k h.1.2 (by simpa using h3) (by simpa using h4)
  | o :: os, e :: es, i0, h, i + 1, j, a, b, ea, eb, hij, h1, h2, h3, h4 => by
    simp only [okAll, Bool.and_eq_true] at h
    obtain ⟨k, rfl⟩ : ∃ k, j = k + 1 := ⟨j - 1, by omega⟩
    have := okAll_spec h.2 i k (by omega) (by simpa using h1) (by simpa using h2) (by simpa using h3) (by simpa using h4)
    rwa [show i0 + 1 + i = i0 + (i + 1) by omega] at this
theorem okAll_back : ∀ {os : List Oper} {es : List Eff} {i0 : Nat}, os.length = es.length → okAll i0 os es = true → ∀ (i : Nat) {a : Oper}, os[i]? = some a → ∀ e ∈ a.after, Region.binds .any e = true → e.on < i0 + i
  | [], _, i0, _, h, i, a, h1 => by simp at h1
  | o :: os, [], i0, hl, h, i, a, h1 => by simp at hl
  | o :: os, e :: es, i0, hl, h, 0, a, h1 => by
    simp only [okAll, Bool.and_eq_true] at h
    simp at h1; subst h1
    intro ed he hb
    have h3 := h.1.1
    rw [List.all_eq_true] at h3
    have := h3 ed (by simpa using he)
    simpa [hb] using this
  | o :: os, e :: es, i0, hl, h, i + 1, a, h1 => by
    simp only [okAll, Bool.and_eq_true] at h
    intro ed he hb
    have := okAll_back (i0 := i0 + 1) (by simpa using hl) h.2 i (by simpa using h1) ed he hb
    omega

/-- The value that operation number i leaves in its temporary. -/
def valE (n0 : Nat) : List Eff → List V
  | [] => []
  | .val v _ :: t => v :: valE n0 t
  | .new _ :: t => .ptr n0 0 :: valE (n0 + 1) t
  | .st _ _ :: t => .tup [] :: valE n0 t
/-- The number of the block that operation number i makes. -/
def idE (n0 : Nat) : List Eff → List Nat
  | [] => []
  | .val _ _ :: t => n0 :: idE n0 t
  | .new _ :: t => n0 :: idE (n0 + 1) t
  | .st _ _ :: t => n0 :: idE n0 t
theorem idE_le (es : List Eff) : ∀ (n0 i k : Nat), (idE n0 es)[i]? = some k → n0 ≤ k := by
  induction es with
  | nil => intro n0 i k h; simp [idE] at h
  | cons e es ih =>
    intro n0 i k h
    cases e <;> simp only [idE] at h <;> cases i <;> simp at h <;> first
      | omega
      | exact ih _ _ _ h
      | (have := ih _ _ _ h; omega)
theorem idE_inj (es : List Eff) : ∀ (n0 i j k : Nat) (ci cj : List V), es[i]? = some (.new ci) → es[j]? = some (.new cj) → (idE n0 es)[i]? = some k → (idE n0 es)[j]? = some k → i = j := by
  induction es with
  | nil => intro n0 i j k ci cj h; simp at h
  | cons e es ih =>
    intro n0 i j k ci cj h1 h2 h3 h4
    cases i with
    | zero =>
      cases j with
      | zero => rfl
      | succ j =>
        simp at h1; subst h1
        simp only [idE] at h3 h4
        simp at h3 h4
        have := idE_le es _ _ _ h4
        omega
    | succ i =>
      cases j with
      | zero =>
        simp at h2; subst h2
        simp only [idE] at h3 h4
        simp at h3 h4
        have := idE_le es _ _ _ h3
        omega
      | succ j =>
        have : i = j := by
          cases e <;> simp only [idE] at h3 h4 <;> simp at h1 h2 h3 h4 <;> exact ih _ i j k ci cj h1 h2 h3 h4
        omega

/-- The temporaries when the operations 'ex' have come up. -/
def TM (ops : List Oper) (vals : List V) (tm0 : List (Nat × V)) (ex : Nat → Prop) (t : Nat) (v : V) : Prop :=
  (∃ i o, ops[i]? = some o ∧ ex i ∧ o.dst = some t ∧ vals[i]? = some v) ∨
  ((∀ i o, ops[i]? = some o → ex i → o.dst ≠ some t) ∧ lk tm0 t = some v)
/-- The blocks when the operations 'ex' have come up. -/
def CM (es : List Eff) (ids : List Nat) (bl0 : List (Nat × List V)) (ex : Nat → Prop) (b : Nat) (cs : List V) : Prop :=
  (∃ i, ex i ∧ es[i]? = some (.st b cs)) ∨
  ((∀ i cs', ex i → es[i]? ≠ some (.st b cs')) ∧ ((∃ i, ex i ∧ es[i]? = some (.new cs) ∧ ids[i]? = some b) ∨ lk bl0 b = some cs))

/-- What a state of the text's order knows. -/
structure Know (ops : List Oper) (es : List Eff) (s si : St) (i : Nat) : Prop where
  n : si.n = s.n
  lo : si.mm.lo = s.mm.lo
  tm : ∀ t v, lk si.tm t = some v → TM ops (valE s.mm.nxt es) s.tm (· < i) t v
  mm : ∀ b cs, lk si.mm.blks b = some cs → CM es (idE s.mm.nxt es) s.mm.blks (· < i) b cs

theorem Know.zero {ops : List Oper} {es : List Eff} {s : St} : Know ops es s s 0 :=
  ⟨rfl, rfl, fun t v h => .inr ⟨fun i o _ hi => absurd hi (Nat.not_lt_zero _), h⟩, fun b cs h => .inr ⟨fun i cs' hi => absurd hi (Nat.not_lt_zero _), .inr h⟩⟩

theorem Know.succ {o : Oper} {e : Eff} {ops : List Oper} {es : List Eff} {s si : St} {i : Nat} (hst : ∀ b cs, e = .st b cs → b < s.mm.nxt) (h : Know ops es (s.eff o.dst e) si i) : Know (o :: ops) (e :: es) s si (i + 1) := by
  have hn : (s.eff o.dst e).n = s.n := by cases e <;> cases hd : o.dst <;> rfl
  have hlo : (s.eff o.dst e).mm.lo = s.mm.lo := by cases e <;> cases hd : o.dst <;> rfl
  have hval : ∀ j v, (valE (s.eff o.dst e).mm.nxt es)[j]? = some v → (valE s.mm.nxt (e :: es))[j + 1]? = some v := by
    intro j v hj
    cases e <;> cases hd : o.dst <;> simp only [hd, St.eff, St.put, Mem.new] at hj <;> simpa [valE] using hj
  have hid : ∀ j v, (idE (s.eff o.dst e).mm.nxt es)[j]? = some v → (idE s.mm.nxt (e :: es))[j + 1]? = some v := by
    intro j v hj
    cases e <;> cases hd : o.dst <;> simp only [hd, St.eff, St.put, Mem.new] at hj <;> simpa [idE] using hj
  refine ⟨h.n.trans hn, h.lo.trans hlo, fun t v hv => ?_, fun b cs hc => ?_⟩
  · rcases h.tm t v hv with ⟨j, oj, h1, h2, h3, h4⟩ | ⟨h1, h2⟩
    · exact .inl ⟨j + 1, oj, by simpa using h1, Nat.succ_lt_succ h2, h3, hval j v h4⟩
    · by_cases hd : o.dst = some t
      · refine .inl ⟨0, o, by simp, Nat.succ_pos _, hd, ?_⟩
        cases e <;> simp [hd, St.eff, St.put, lk_cons] at h2 <;> subst h2 <;> simp [valE]
      · refine .inr ⟨fun j oj h3 h4 => ?_, ?_⟩
        · cases j with
          | zero => simp at h3; subst h3; exact hd
          | succ j => exact h1 j oj (by simpa using h3) (Nat.lt_of_succ_lt_succ h4)
        · cases e <;> cases hd' : o.dst <;> simp only [hd', St.eff, St.put, lk_cons] at h2 <;> first
            | exact h2
            | (rw [if_neg (fun h => hd (by rw [hd', h]))] at h2; exact h2)
  · rcases h.mm b cs hc with ⟨j, h1, h2⟩ | ⟨h1, h2⟩
    · exact .inl ⟨j + 1, Nat.succ_lt_succ h1, by simpa using h2⟩
    · have later : (∃ cs', e = .st b cs') → CM (e :: es) (idE s.mm.nxt (e :: es)) s.mm.blks (· < i + 1) b cs := by
        rintro ⟨cs', rfl⟩
        refine .inl ⟨0, Nat.succ_pos _, ?_⟩
        rcases h2 with ⟨j, h3, h4, h5⟩ | h2
        · have hlt := hst b cs' rfl
          have hge := idE_le _ _ _ _ h5
          cases hd' : o.dst <;> simp only [hd', St.eff, St.put] at hge <;> omega
        · cases hd' : o.dst <;> simp [hd', St.eff, St.put, lk_cons] at h2 <;> subst h2 <;> simp
      by_cases he : ∃ cs', e = .st b cs'
      · exact later he
      · refine .inr ⟨fun j cs' h3 => ?_, ?_⟩
        · cases j with
          | zero => simp; intro h; exact he ⟨cs', h⟩
          | succ j => simpa using h1 j cs' (Nat.lt_of_succ_lt_succ h3)
        · rcases h2 with ⟨j, h3, h4, h5⟩ | h2
          · exact .inl ⟨j + 1, Nat.succ_lt_succ h3, by simpa using h4, hid j b h5⟩
          · cases e with
            | val v rd => cases hd' : o.dst <;> simp only [hd', St.eff, St.put] at h2 <;> exact .inr h2
            | new c =>
              cases hd' : o.dst <;> simp only [hd', St.eff, St.put, Mem.new, lk_cons] at h2 <;> (
                by_cases hb : s.mm.nxt = b
                · rw [if_pos hb] at h2
                  cases h2
                  exact .inl ⟨0, Nat.succ_pos _, by simp, by simp [idE, hb]⟩
                · rw [if_neg hb] at h2; exact .inr h2)
            | st b' c =>
              have hb : b' ≠ b := fun hb => he ⟨c, by rw [hb]⟩
              cases hd' : o.dst <;> simp only [hd', St.eff, St.put, lk_cons] at h2 <;> rw [if_neg hb] at h2 <;> exact .inr h2

theorem effOf_st {T : List (TyE P)} {Es : List (Ent P)} {s : St} {o : Oper} {b : Nat} {cs : List V} (h : effOf T Es s o = some (.st b cs)) : b < s.mm.nxt := by
  unfold effOf at h
  split at h
  · split at h <;> cases h
  · split at h <;> cases h
  · split at h <;> try (cases h; done)
    rename_i e b' off v he hx hv
    cases hb : (Nat.beq v.cells.length e.size && Nat.blt b' s.mm.nxt) with
    | false => simp [hb] at h
    | true =>
      simp only [hb, cond_true] at h
      split at h <;> try (cases h; done)
      split at h <;> try (cases h; done)
      cases h
      simp only [Bool.and_eq_true] at hb
      simpa using hb.2
  · cases h
  · split at h <;> cases h
theorem drawR_at {T : List (TyE P)} {Es : List (Ent P)} : ∀ {os : List Oper} {s s' : St} {es : List Eff}, drawR T Es os s = some (es, s') → ∀ (i : Nat) (o : Oper) (e : Eff), os[i]? = some o → es[i]? = some e →
    ∃ si : St, Know os es s si i ∧ (idE s.mm.nxt es)[i]? = some si.mm.nxt ∧ o.guard = none ∧ si.fits o.dst = true ∧ effOf T Es si o = some e
  | [], s, s', es, h, i, o, e, h1, h2 => by simp at h1
  | a :: os, s, s', es, h, i, o, e, h1, h2 => by
    simp only [drawR] at h
    split at h <;> try (cases h; done)
    rename_i hg
    cases hf : s.fits a.dst with
    | false => simp [hf] at h
    | true =>
      simp only [hf, cond_true] at h
      split at h <;> try (cases h; done)
      rename_i ea hea
      split at h <;> try (cases h; done)
      rename_i es' s'' hr
      simp only [Option.some.injEq, Prod.mk.injEq] at h
      obtain ⟨rfl, rfl⟩ := h
      cases i with
      | zero =>
        simp at h1 h2; subst h1; subst h2
        exact ⟨s, Know.zero, by cases ea <;> simp [idE], hg, hf, hea⟩
      | succ i =>
        obtain ⟨si, k1, k2, k3, k4, k5⟩ := drawR_at hr i o e (by simpa using h1) (by simpa using h2)
        refine ⟨si, k1.succ (fun b cs hb => effOf_st (hb ▸ hea)), ?_, k3, k4, k5⟩
        cases ea <;> cases hd : a.dst <;> simp only [hd, St.eff, St.put, Mem.new] at k2 <;> simpa [idE] using k2
theorem drawR_end {T : List (TyE P)} {Es : List (Ent P)} : ∀ {os : List Oper} {s s' : St} {es : List Eff}, drawR T Es os s = some (es, s') →
    Know os es s s' os.length ∧ s.mm.nxt ≤ s'.mm.nxt ∧ (∀ (i b : Nat), (∃ c : List V, es[i]? = some (Eff.new c)) → (idE s.mm.nxt es)[i]? = some b → b < s'.mm.nxt)
  | [], s, s', es, h => by
    simp [drawR] at h
    obtain ⟨rfl, rfl⟩ := h
    exact ⟨Know.zero, Nat.le_refl _, fun i b h => by simp at h⟩
  | a :: os, s, s', es, h => by
    simp only [drawR] at h
    split at h <;> try (cases h; done)
    cases hf : s.fits a.dst with
    | false => simp [hf] at h
    | true =>
      simp only [hf, cond_true] at h
      split at h <;> try (cases h; done)
      rename_i ea hea
      split at h <;> try (cases h; done)
      rename_i es' s'' hr
      simp only [Option.some.injEq, Prod.mk.injEq] at h
      obtain ⟨rfl, rfl⟩ := h
      obtain ⟨k1, k2, k3⟩ := drawR_end hr
      have hle : s.mm.nxt ≤ (s.eff a.dst ea).mm.nxt := by cases ea <;> cases hd : a.dst <;> simp [St.eff, St.put, Mem.new]
      refine ⟨k1.succ (fun b cs hb => effOf_st (hb ▸ hea)), Nat.le_trans hle k2, fun i b hc hb => ?_⟩
      cases i with
      | zero =>
        obtain ⟨c, hc⟩ := hc
        simp at hc; subst hc
        simp [idE] at hb; subst hb
        cases hd : a.dst <;> simp only [hd, St.eff, St.put, Mem.new] at k2 <;> omega
      | succ i =>
        refine k3 i b (by simpa using hc) ?_
        cases ea <;> cases hd : a.dst <;> simp only [hd, St.eff, St.put, Mem.new] <;> simpa [idE] using hb

def Loc (ρ : Nat → Option Nat) (w : World) (b : Nat) (cs : List V) : Prop :=
  ∃ r xs t, ρ b = some r ∧ w.heap[r]? = some (.cells xs.toArray t (0, 0)) ∧ VRs ρ cs xs

def exL (listed : Array Bool) (k : Nat) : Prop := listed.getD k false = true

/-- How things stand when the operations 'listed' have come up, in whatever order. -/
structure DS (ops : List Oper) (es : List Eff) (s : St) (N : Nat) (w0 : World) (ρ0 : Nat → Option Nat) (listed : Array Bool) (ρ : Nat → Option Nat) (a : Act) (w : World) : Prop where
  sz : a.tmps.size = s.n
  df : a.defers = []
  ext : Ext ρ0 ρ
  tm : ∀ t v, TM ops (valE s.mm.nxt es) s.tm (exL listed) t v → ∃ x, a.tmps[t]? = some x ∧ VR ρ v x
  mm : ∀ b cs, CM es (idE s.mm.nxt es) s.mm.blks (exL listed) b cs → (b < s.mm.nxt ∨ ∃ i c, exL listed i ∧ es[i]? = some (.new c) ∧ (idE s.mm.nxt es)[i]? = some b) → Loc ρ w b cs
  inj : ∀ b b' r, ρ b = some r → ρ b' = some r → b = b'
  dom : ∀ b r, ρ b = some r → r < w.heap.size
  own : ∀ b r, s.mm.lo ≤ b → ρ b = some r → w0.heap.size ≤ r
  bel : Below w0.heap.size w0 w
  fr : ∀ b r, ρ b = some r → b < s.mm.nxt ∨ ∃ i c, exL listed i ∧ es[i]? = some (.new c) ∧ (idE s.mm.nxt es)[i]? = some b
  lsz : listed.size = ops.length
  cl : ∀ k o, ops[k]? = some o → exL listed k → ∀ e ∈ o.after, Region.binds .any e = true → exL listed e.on
  stx : ∀ k b cs, exL listed k → es[k]? = some (.st b cs) → ∃ r, ρ b = some r
  ini : ∀ b cs, lk s.mm.blks b = some cs → ∃ r, ρ0 b = some r
  lon : s.mm.lo ≤ s.mm.nxt

theorem exL_set {listed : Array Bool} {i k : Nat} (hi : i < listed.size) : exL (listed.setIfInBounds i true) k ↔ k = i ∨ exL listed k := by
  unfold exL
  by_cases h : i = k
  · subst h; simp [hi]
  · rw [getD_set_ne false h]; simp [show ¬ k = i from fun e => h e.symm]

section step
variable {ops : List Oper} {es : List Eff} {s : St} {N : Nat} {w0 : World} {ρ0 : Nat → Option Nat} {listed : Array Bool} {ρ : Nat → Option Nat} {a : Act} {w : World} {i : Nat} {o : Oper} {e : Eff}

theorem linked_ex (hl : linked o i = true) (h : ∀ e ∈ o.after, Region.binds .any e = true → exL listed e.on) : exL listed i := by
  unfold linked at hl
  rw [List.any_eq_true] at hl
  obtain ⟨ed, h1, h2⟩ := hl
  simp only [Bool.and_eq_true] at h2
  have := h ed (by simpa using h1) h2.2
  rwa [Nat.eq_of_beq_eq_true h2.1] at this

theorem pair_link {i : Nat} {a b : Oper} {ea eb : Eff} (h : okPair i a ea b eb = true) (hc : confl a b ea eb = true) : linked b i = true := by
  simp only [okPair, Bool.and_eq_true, Bool.or_eq_true, Bool.not_eq_true'] at h
  rcases h.2 with h | h
  · rw [hc] at h; cases h
  · exact h
theorem pair_dst {i : Nat} {a b : Oper} {ea eb : Eff} {t : Nat} (h : okPair i a ea b eb = true) (h1 : a.dst = some t) (h2 : b.dst = some t) : False := by
  simp only [okPair, Bool.and_eq_true, Bool.not_eq_true'] at h
  have := h.1
  simp [clash, h1, h2] at this
theorem pair_st {i : Nat} {a b : Oper} {x : Nat} {c c' : List V} (h : okPair i a (.st x c) b (.st x c') = true) : False := by
  simp only [okPair, Bool.and_eq_true, Bool.not_eq_true'] at h
  have := h.1
  simp [clash] at this


theorem not_ex (hall : okAll 0 ops es = true) (hlen : es.length = ops.length) (hD : DS ops es s N w0 ρ0 listed ρ a w) (ho : ops[i]? = some o) (he : es[i]? = some e)
    (hun : listed.getD i true = false) (hed : ∀ e ∈ o.after, Region.binds .any e = true → exL listed e.on) : ¬ exL listed i := by
  have hlt : i < listed.size := by rw [hD.lsz]; exact (List.getElem?_eq_some_iff.1 ho).1
  unfold exL
  simp [hlt] at hun ⊢
  simpa using hun

theorem look_tm (hall : okAll 0 ops es = true) (hlen : es.length = ops.length) (hD : DS ops es s N w0 ρ0 listed ρ a w) (ho : ops[i]? = some o) (he : es[i]? = some e)
    (hun : listed.getD i true = false) (hed : ∀ e ∈ o.after, Region.binds .any e = true → exL listed e.on) {t : Nat} {v : V} (ht : t ∈ looksT o) (hv : TM ops (valE s.mm.nxt es) s.tm (· < i) t v) : TM ops (valE s.mm.nxt es) s.tm (exL listed) t v := by
  have hne := not_ex hall hlen hD ho he hun hed
  rcases hv with ⟨j, oj, h1, h2, h3, h4⟩ | ⟨h1, h2⟩
  · obtain ⟨ej, hej⟩ : ∃ ej, es[j]? = some ej := by
      have : j < es.length := by rw [hlen]; exact (List.getElem?_eq_some_iff.1 h1).1
      exact ⟨_, List.getElem?_eq_getElem this⟩
    have hp := okAll_spec hall j i h2 h1 hej ho he
    rw [Nat.zero_add] at hp
    have hc : confl oj o ej e = true := by
      have : hasN (looksT o) t = true := hasN_iff.2 ht
      simp [confl, meets, h3, this]
    exact .inl ⟨j, oj, h1, linked_ex (pair_link hp hc) hed, h3, h4⟩
  · refine .inr ⟨fun k ok hk hex hd => ?_, h2⟩
    rcases Nat.lt_trichotomy k i with hlt | rfl | hgt
    · exact h1 k ok hk hlt hd
    · exact hne hex
    · obtain ⟨ek, hek⟩ : ∃ ek, es[k]? = some ek := by
        have : k < es.length := by rw [hlen]; exact (List.getElem?_eq_some_iff.1 hk).1
        exact ⟨_, List.getElem?_eq_getElem this⟩
      have hp := okAll_spec hall i k hgt ho he hk hek
      rw [Nat.zero_add] at hp
      have hc : confl o ok e ek = true := by
        have : hasN (looksT o) t = true := hasN_iff.2 ht
        simp [confl, meets, hd, this]
      exact hne (linked_ex (pair_link hp hc) (hD.cl k ok hk hex))

theorem look_mm (hall : okAll 0 ops es = true) (hlen : es.length = ops.length) (hD : DS ops es s N w0 ρ0 listed ρ a w) (ho : ops[i]? = some o) (he : es[i]? = some e)
    (hun : listed.getD i true = false) (hed : ∀ e ∈ o.after, Region.binds .any e = true → exL listed e.on) {b : Nat} {cs : List V} (hk : (∃ v l, e = .val v l ∧ hasN l b = true) ∨ ∃ c, e = .st b c) (hc : CM es (idE s.mm.nxt es) s.mm.blks (· < i) b cs)
    (hb : b < s.mm.nxt ∨ ∃ i c, exL listed i ∧ es[i]? = some (.new c) ∧ (idE s.mm.nxt es)[i]? = some b) : CM es (idE s.mm.nxt es) s.mm.blks (exL listed) b cs := by
  have hne := not_ex hall hlen hD ho he hun hed
  have getO : ∀ {j ej}, es[j]? = some ej → ∃ oj, ops[j]? = some oj := fun {j ej} h => by
    have : j < ops.length := by rw [← hlen]; exact (List.getElem?_eq_some_iff.1 h).1
    exact ⟨_, List.getElem?_eq_getElem this⟩
  rcases hc with ⟨j, h1, h2⟩ | ⟨h1, h2⟩
  · obtain ⟨oj, hoj⟩ := getO h2
    have hp := okAll_spec hall j i h1 hoj h2 ho he
    rw [Nat.zero_add] at hp
    rcases hk with ⟨v, l, rfl, hl⟩ | ⟨c, rfl⟩
    · have hcf : confl oj o (.st b cs) (.val v l) = true := by simp [confl, hits, hl]
      exact .inl ⟨j, linked_ex (pair_link hp hcf) hed, h2⟩
    · exact (pair_st hp).elim
  · refine .inr ⟨fun k cs' hex hst => ?_, ?_⟩
    · obtain ⟨ok, hok⟩ := getO hst
      rcases Nat.lt_trichotomy k i with hlt | rfl | hgt
      · exact h1 k cs' hlt hst
      · exact hne hex
      · have hp := okAll_spec hall i k hgt ho he hok hst
        rw [Nat.zero_add] at hp
        rcases hk with ⟨v, l, rfl, hl⟩ | ⟨c, rfl⟩
        · have hcf : confl o ok (.val v l) (.st b cs') = true := by simp [confl, hits, hl]
          exact hne (linked_ex (pair_link hp hcf) (hD.cl k ok hok hex))
        · exact (pair_st hp).elim
    · rcases h2 with ⟨j, h3, h4, h5⟩ | h2
      · rcases hb with hb | ⟨i', c, h6, h7, h8⟩
        · have := idE_le _ _ _ _ h5; omega
        · have := idE_inj _ _ _ _ _ _ _ h4 h7 h5 h8
          subst this
          exact .inl ⟨j, h6, h4, h5⟩
      · exact .inr h2

/-- The temporaries behind the operation. -/
theorem step_tm (hall : okAll 0 ops es = true) (hlen : es.length = ops.length) (hD : DS ops es s N w0 ρ0 listed ρ a w) (ho : ops[i]? = some o) (he : es[i]? = some e)
    (hun : listed.getD i true = false) (hed : ∀ e ∈ o.after, Region.binds .any e = true → exL listed e.on) {ρ' : Nat → Option Nat} {v : V} {x : Value} (hv : (valE s.mm.nxt es)[i]? = some v) (e' : Ext ρ ρ') (hx : VR ρ' v x) (hf : ∀ d, o.dst = some d → d < s.n) :
    ∀ t u, TM ops (valE s.mm.nxt es) s.tm (exL (listed.setIfInBounds i true)) t u → ∃ y, (a.put o.dst x).tmps[t]? = some y ∧ VR ρ' u y := by
  have hlt : i < listed.size := by rw [hD.lsz]; exact (List.getElem?_eq_some_iff.1 ho).1
  have hput : ∀ t, o.dst ≠ some t → (a.put o.dst x).tmps[t]? = a.tmps[t]? := fun t ht => by
    cases hd : o.dst with
    | none => rfl
    | some d => simp only [Act.put]; rw [Array.getElem?_setIfInBounds_ne (fun h => ht (by rw [hd, h]))]
  have hnew : ∀ t, o.dst = some t → (a.put o.dst x).tmps[t]? = some x := fun t ht => by
    have := hf t ht
    rw [ht]; simp [Act.put, hD.sz, this]
  intro t u hu
  by_cases hd : o.dst = some t
  · refine ⟨x, hnew t hd, ?_⟩
    rcases hu with ⟨k, ok, h1, h2, h3, h4⟩ | ⟨h1, h2⟩
    · by_cases hki : k = i
      · subst hki
        rw [hv] at h4; cases h4; exact hx
      · exfalso
        obtain ⟨ek, hek⟩ : ∃ ek, es[k]? = some ek := by
          have : k < es.length := by rw [hlen]; exact (List.getElem?_eq_some_iff.1 h1).1
          exact ⟨_, List.getElem?_eq_getElem this⟩
        rcases Nat.lt_or_gt_of_ne hki with hlt' | hgt
        · have hp := okAll_spec hall k i hlt' h1 hek ho he; exact pair_dst hp h3 hd
        · have hp := okAll_spec hall i k hgt ho he h1 hek; exact pair_dst hp hd h3
    · exact absurd hd (h1 i o ho ((exL_set hlt).2 (.inl rfl)))
  · have htm : TM ops (valE s.mm.nxt es) s.tm (exL listed) t u := by
      rcases hu with ⟨k, ok, h1, h2, h3, h4⟩ | ⟨h1, h2⟩
      · rcases (exL_set hlt).1 h2 with rfl | h2
        · rw [ho] at h1; cases h1; exact absurd h3 hd
        · exact .inl ⟨k, ok, h1, h2, h3, h4⟩
      · exact .inr ⟨fun k ok h3 h4 => h1 k ok h3 ((exL_set hlt).2 (.inr h4)), h2⟩
    obtain ⟨y, h1, h2⟩ := hD.tm t u htm
    exact ⟨y, by rw [hput t hd]; exact h1, h2.mono e'⟩

theorem step_cl (hall : okAll 0 ops es = true) (hlen : es.length = ops.length) (hD : DS ops es s N w0 ρ0 listed ρ a w) (ho : ops[i]? = some o) (he : es[i]? = some e)
    (hun : listed.getD i true = false) (hed : ∀ e ∈ o.after, Region.binds .any e = true → exL listed e.on) : (∀ k o, ops[k]? = some o → exL (listed.setIfInBounds i true) k → ∀ e ∈ o.after, Region.binds .any e = true → exL (listed.setIfInBounds i true) e.on) := by
  have hlt : i < listed.size := by rw [hD.lsz]; exact (List.getElem?_eq_some_iff.1 ho).1
  intro k ok hk hex ed h1 h2
  refine (exL_set hlt).2 (.inr ?_)
  rcases (exL_set hlt).1 hex with rfl | hex
  · rw [ho] at hk; cases hk; exact hed ed h1 h2
  · exact hD.cl k ok hk hex ed h1 h2

/-- Behind an operation that left all old blocks alone and gave a value. -/
theorem DS.val (hall : okAll 0 ops es = true) (hlen : es.length = ops.length) (hD : DS ops es s N w0 ρ0 listed ρ a w) (ho : ops[i]? = some o) (he : es[i]? = some e)
    (hun : listed.getD i true = false) (hed : ∀ e ∈ o.after, Region.binds .any e = true → exL listed e.on) {v : V} {rd : List Nat} {x : Value} {w' : World} (hev : e = .val v rd) (hv : (valE s.mm.nxt es)[i]? = some v) (hx : VR ρ v x) (hf : ∀ d, o.dst = some d → d < s.n) (hb : Below w.heap.size w w') :
    DS ops es s N w0 ρ0 (listed.setIfInBounds i true) ρ (a.put o.dst x) w' := by
  have hlt : i < listed.size := by rw [hD.lsz]; exact (List.getElem?_eq_some_iff.1 ho).1
  have old : ∀ b, (b < s.mm.nxt ∨ ∃ i' c, exL (listed.setIfInBounds i true) i' ∧ es[i']? = some (.new c) ∧ (idE s.mm.nxt es)[i']? = some b) →
      (b < s.mm.nxt ∨ ∃ i' c, exL listed i' ∧ es[i']? = some (.new c) ∧ (idE s.mm.nxt es)[i']? = some b) := by
    rintro b (h | ⟨i', c, h1, h2, h3⟩)
    · exact .inl h
    · rcases (exL_set hlt).1 h1 with rfl | h1
      · rw [he, hev] at h2; cases h2
      · exact .inr ⟨i', c, h1, h2, h3⟩
  refine ⟨by cases hd : o.dst <;> simp [Act.put, hD.sz], by cases hd : o.dst <;> exact hD.df, hD.ext, step_tm hall hlen hD ho he hun hed hv (Ext.refl _) hx hf, fun b cs hc hbb => ?_, hD.inj,
    fun b r hr => Nat.lt_of_lt_of_le (hD.dom b r hr) hb.size, hD.own, hD.bel.trans (hb.mono hD.bel.size), fun b r hr => ?_, by simp [hD.lsz], step_cl hall hlen hD ho he hun hed, fun k b cs h1 h2 => ?_, hD.ini, hD.lon⟩
  · have hc' : CM es (idE s.mm.nxt es) s.mm.blks (exL listed) b cs := by
      rcases hc with ⟨k, h1, h2⟩ | ⟨h1, h2⟩
      · rcases (exL_set hlt).1 h1 with rfl | h1
        · rw [he, hev] at h2; cases h2
        · exact .inl ⟨k, h1, h2⟩
      · refine .inr ⟨fun k cs' h3 => h1 k cs' ((exL_set hlt).2 (.inr h3)), ?_⟩
        rcases h2 with ⟨k, h3, h4, h5⟩ | h2
        · rcases (exL_set hlt).1 h3 with rfl | h3
          · rw [he, hev] at h4; cases h4
          · exact .inl ⟨k, h3, h4, h5⟩
        · exact .inr h2
    obtain ⟨r, xs, t, h1, h2, h3⟩ := hD.mm b cs hc' (old b hbb)
    exact ⟨r, xs, t, h1, by rw [hb.block r (hD.dom b r h1)]; exact h2, h3⟩
  · rcases hD.fr b r hr with h | ⟨i', c, h1, h2, h3⟩
    · exact .inl h
    · exact .inr ⟨i', c, (exL_set hlt).2 (.inr h1), h2, h3⟩
  · rcases (exL_set hlt).1 h1 with rfl | h1
    · rw [he, hev] at h2; cases h2
    · exact hD.stx k b cs h1 h2

/-- Behind a new block. -/
theorem DS.new (hall : okAll 0 ops es = true) (hlen : es.length = ops.length) (hD : DS ops es s N w0 ρ0 listed ρ a w) (ho : ops[i]? = some o) (he : es[i]? = some e)
    (hun : listed.getD i true = false) (hed : ∀ e ∈ o.after, Region.binds .any e = true → exL listed e.on) {c : List V} {xs : List Value} {ty : TypeId} {b0 : Nat} (hev : e = .new c) (hid : (idE s.mm.nxt es)[i]? = some b0) (hv : (valE s.mm.nxt es)[i]? = some (.ptr b0 0)) (hc : VRs ρ c xs) (hf : ∀ d, o.dst = some d → d < s.n) :
    ∃ ρ', DS ops es s N w0 ρ0 (listed.setIfInBounds i true) ρ' (a.put o.dst (.pointer (some ⟨w.heap.size, 0, none⟩))) (w.alloc (.cells xs.toArray ty (0, 0))) := by
  have hlt : i < listed.size := by rw [hD.lsz]; exact (List.getElem?_eq_some_iff.1 ho).1
  have hne := not_ex hall hlen hD ho he hun hed
  have hge := idE_le _ _ _ _ hid
  have hn : ρ b0 = none := by
    cases hr : ρ b0 with
    | none => rfl
    | some r =>
      exfalso
      rcases hD.fr b0 r hr with h | ⟨i', c', h1, h2, h3⟩
      · omega
      · have := idE_inj _ _ _ _ _ _ _ h2 (hev ▸ he) h3 hid
        subst this; exact hne h1
  have e' : Ext ρ (fun b => if b = b0 then some w.heap.size else ρ b) := fun b r hr => by
    have : b ≠ b0 := fun hb => by rw [hb, hn] at hr; cases hr
    simp [this, hr]
  have hself : (fun b => if b = b0 then some w.heap.size else ρ b) b0 = some w.heap.size := by simp
  refine ⟨_, by cases hd : o.dst <;> simp [Act.put, hD.sz], by cases hd : o.dst <;> exact hD.df, hD.ext.trans e', step_tm hall hlen hD ho he hun hed hv e' (.ptr hself) hf, fun b cs hcm hbb => ?_, ?_, ?_, ?_,
    hD.bel.alloc hD.bel.size _, fun b r hr => ?_, by simp [hD.lsz], step_cl hall hlen hD ho he hun hed, fun k b cs h1 h2 => ?_, hD.ini, hD.lon⟩
  · by_cases hb : b = b0
    · subst hb
      have hcs : cs = c := by
        rcases hcm with ⟨k, h1, h2⟩ | ⟨h1, h2⟩
        · exfalso
          rcases (exL_set hlt).1 h1 with rfl | h1
          · rw [he, hev] at h2; cases h2
          · obtain ⟨r, hr⟩ := hD.stx k _ _ h1 h2
            rw [hn] at hr; cases hr
        · rcases h2 with ⟨k, h3, h4, h5⟩ | h2
          · have := idE_inj _ _ _ _ _ _ _ h4 (hev ▸ he) h5 hid
            subst this; rw [he, hev] at h4; cases h4; rfl
          · obtain ⟨r, hr⟩ := hD.ini _ _ h2
            have := hD.ext _ _ hr
            rw [hn] at this; cases this
      subst hcs
      exact ⟨w.heap.size, xs, ty, hself, heap_alloc_new w _, hc.mono e'⟩
    · have hcm' : CM es (idE s.mm.nxt es) s.mm.blks (exL listed) b cs := by
        rcases hcm with ⟨k, h1, h2⟩ | ⟨h1, h2⟩
        · rcases (exL_set hlt).1 h1 with rfl | h1
          · rw [he, hev] at h2; cases h2
          · exact .inl ⟨k, h1, h2⟩
        · refine .inr ⟨fun k cs' h3 => h1 k cs' ((exL_set hlt).2 (.inr h3)), ?_⟩
          rcases h2 with ⟨k, h3, h4, h5⟩ | h2
          · rcases (exL_set hlt).1 h3 with rfl | h3
            · rw [hid] at h5; cases h5; exact absurd rfl hb
            · exact .inl ⟨k, h3, h4, h5⟩
          · exact .inr h2
      have hbb' : b < s.mm.nxt ∨ ∃ i' c, exL listed i' ∧ es[i']? = some (.new c) ∧ (idE s.mm.nxt es)[i']? = some b := by
        rcases hbb with h | ⟨i', c', h1, h2, h3⟩
        · exact .inl h
        · rcases (exL_set hlt).1 h1 with rfl | h1
          · rw [hid] at h3; cases h3; exact absurd rfl hb
          · exact .inr ⟨i', c', h1, h2, h3⟩
      obtain ⟨r, ys, t, h1, h2, h3⟩ := hD.mm b cs hcm' hbb'
      exact ⟨r, ys, t, e' _ _ h1, by rw [Below.heap_alloc _ _ _ (hD.dom b r h1)]; exact h2, h3.mono e'⟩
  · intro b b' r h1 h2
    split at h1 <;> split at h2
    · simp_all
    · cases h1; have := hD.dom b' _ h2; omega
    · cases h2; have := hD.dom b _ h1; omega
    · exact hD.inj b b' r h1 h2
  · intro b r hr
    rw [World.size_alloc]
    split at hr
    · cases hr; omega
    · have := hD.dom b r hr; omega
  · intro b r hb hr
    split at hr
    · cases hr; exact hD.bel.size
    · exact hD.own b r hb hr
  · split at hr
    · rename_i hb; subst hb
      exact .inr ⟨i, c, (exL_set hlt).2 (.inl rfl), hev ▸ he, hid⟩
    · rcases hD.fr b r hr with h | ⟨i', c', h1, h2, h3⟩
      · exact .inl h
      · exact .inr ⟨i', c', (exL_set hlt).2 (.inr h1), h2, h3⟩
  · rcases (exL_set hlt).1 h1 with rfl | h1
    · rw [he, hev] at h2; cases h2
    · obtain ⟨r, hr⟩ := hD.stx k b cs h1 h2
      exact ⟨r, e' _ _ hr⟩

/-- Behind a store. -/
theorem DS.st (hall : okAll 0 ops es = true) (hlen : es.length = ops.length) (hD : DS ops es s N w0 ρ0 listed ρ a w) (ho : ops[i]? = some o) (he : es[i]? = some e)
    (hun : listed.getD i true = false) (hed : ∀ e ∈ o.after, Region.binds .any e = true → exL listed e.on) {b0 : Nat} {c : List V} {r0 : Nat} {w' : World} (hev : e = .st b0 c) (hv : (valE s.mm.nxt es)[i]? = some (.tup [])) (hr0 : ρ b0 = some r0)
    (hold : ∀ k, k ≠ r0 → w'.heap[k]? = w.heap[k]?) (hsz : w'.heap.size = w.heap.size) (hbel : Below w0.heap.size w0 w') (hloc : Loc ρ w' b0 c) (hf : ∀ d, o.dst = some d → d < s.n) :
    DS ops es s N w0 ρ0 (listed.setIfInBounds i true) ρ (a.put o.dst undef) w' := by
  have hlt : i < listed.size := by rw [hD.lsz]; exact (List.getElem?_eq_some_iff.1 ho).1
  refine ⟨by cases hd : o.dst <;> simp [Act.put, hD.sz], by cases hd : o.dst <;> exact hD.df, hD.ext, step_tm hall hlen hD ho he hun hed hv (Ext.refl _) (.tup (xs := []) .nil) hf, fun b cs hcm hbb => ?_, hD.inj,
    fun b r hr => by rw [hsz]; exact hD.dom b r hr, hD.own, hbel, fun b r hr => ?_, by simp [hD.lsz], step_cl hall hlen hD ho he hun hed, fun k b cs h1 h2 => ?_, hD.ini, hD.lon⟩
  · by_cases hb : b = b0
    · subst hb
      have hcs : cs = c := by
        rcases hcm with ⟨k, h1, h2⟩ | ⟨h1, h2⟩
        · by_cases hki : k = i
          · subst hki; rw [he, hev] at h2; cases h2; rfl
          · exfalso
            obtain ⟨ok, hok⟩ : ∃ ok, ops[k]? = some ok := by
              have : k < ops.length := by rw [← hlen]; exact (List.getElem?_eq_some_iff.1 h2).1
              exact ⟨_, List.getElem?_eq_getElem this⟩
            rcases Nat.lt_or_gt_of_ne hki with hlt' | hgt
            · have hp := okAll_spec hall k i hlt' hok h2 ho (hev ▸ he); exact pair_st hp
            · have hp := okAll_spec hall i k hgt ho (hev ▸ he) hok h2; exact pair_st hp
        · exact absurd (hev ▸ he) (h1 i c ((exL_set hlt).2 (.inl rfl)))
      subst hcs
      exact hloc
    · have hcm' : CM es (idE s.mm.nxt es) s.mm.blks (exL listed) b cs := by
        rcases hcm with ⟨k, h1, h2⟩ | ⟨h1, h2⟩
        · rcases (exL_set hlt).1 h1 with rfl | h1
          · rw [he, hev] at h2; cases h2; exact absurd rfl hb
          · exact .inl ⟨k, h1, h2⟩
        · refine .inr ⟨fun k cs' h3 => h1 k cs' ((exL_set hlt).2 (.inr h3)), ?_⟩
          rcases h2 with ⟨k, h3, h4, h5⟩ | h2
          · rcases (exL_set hlt).1 h3 with rfl | h3
            · rw [he, hev] at h4; cases h4
            · exact .inl ⟨k, h3, h4, h5⟩
          · exact .inr h2
      have hbb' : b < s.mm.nxt ∨ ∃ i' c, exL listed i' ∧ es[i']? = some (.new c) ∧ (idE s.mm.nxt es)[i']? = some b := by
        rcases hbb with h | ⟨i', c', h1, h2, h3⟩
        · exact .inl h
        · rcases (exL_set hlt).1 h1 with rfl | h1
          · rw [he, hev] at h2; cases h2
          · exact .inr ⟨i', c', h1, h2, h3⟩
      obtain ⟨r, zs, t, h1, h2, h3⟩ := hD.mm b cs hcm' hbb'
      exact ⟨r, zs, t, h1, by rw [hold r (fun h => hb (hD.inj b b0 r0 (h ▸ h1) hr0))]; exact h2, h3⟩
  · rcases hD.fr b r hr with h | ⟨i', c', h1, h2, h3⟩
    · exact .inl h
    · exact .inr ⟨i', c', (exL_set hlt).2 (.inr h1), h2, h3⟩
  · rcases (exL_set hlt).1 h1 with rfl | h1
    · rw [he, hev] at h2; cases h2; exact ⟨r0, hr0⟩
    · exact hD.stx k b cs h1 h2
end step

/-! ### one operation, in whatever order it comes up -/
theorem valE_at : ∀ (es : List Eff) (n0 i k : Nat) (e : Eff), es[i]? = some e → (idE n0 es)[i]? = some k → (valE n0 es)[i]? = some (match e with
    | .val v _ => v
    | .new _ => .ptr k 0
    | .st _ _ => .tup [])
  | [], _, _, _, _, h, _ => by simp at h
  | x :: es, n0, 0, k, e, h1, h2 => by
    simp at h1; subst h1
    cases x <;> simp [idE] at h2 <;> subst h2 <;> simp [valE]
  | x :: es, n0, i + 1, k, e, h1, h2 => by
    cases x <;> simp only [idE] at h2 <;> simp only [valE, List.getElem?_cons_succ] <;> exact valE_at es _ i k e (by simpa using h1) (by simpa using h2)

def pickL (tm : List (Nat × V)) : List Nat → List (Nat × V)
  | [] => []
  | t :: ts => match lk tm t with
    | some v => (t, v) :: pickL tm ts
    | none => pickL tm ts
theorem pickL_lk {tm : List (Nat × V)} : ∀ {ts : List Nat} {t : Nat}, (t ∈ ts → lk (pickL tm ts) t = lk tm t) ∧ ∀ v, lk (pickL tm ts) t = some v → t ∈ ts ∧ lk tm t = some v
  | [], t => ⟨fun h => by simp at h, fun v h => by simp [pickL, lk] at h⟩
  | u :: ts, t => by
    obtain ⟨h1, h2⟩ := pickL_lk (tm := tm) (ts := ts) (t := t)
    cases hu : lk tm u with
    | none =>
      simp only [pickL, hu]
      refine ⟨fun h => ?_, fun v hv => ⟨by simp [(h2 v hv).1], (h2 v hv).2⟩⟩
      by_cases ht : t ∈ ts
      · exact h1 ht
      · simp [ht] at h; subst h
        rw [hu]
        cases hl : lk (pickL tm ts) t with
        | none => rfl
        | some v => exact absurd (h2 v hl).1 ht
    | some x =>
      simp only [pickL, hu, lk_cons]
      by_cases hut : u = t
      · subst hut; simp [hu]
      · simp only [if_neg hut]
        refine ⟨fun h => h1 (by simpa [show ¬ t = u from fun e => hut e.symm] using h), fun v hv => ⟨by simp [(h2 v hv).1], (h2 v hv).2⟩⟩

theorem callD_ok (Es : List (Ent P)) (w0 : World) : CallOk P w0 (callD Es) := by
  intro f vs m K r h ρ xs w hv hm o a next Q hn
  unfold callD at h
  split at h <;> try (cases h; done)
  rename_i e he
  have hid := entf_id he
  cases hg : e.g vs (manyB m.blks vs) with
  | false => simp [hg] at h
  | true =>
    simp only [hg, cond_true] at h
    split at h <;> try (cases h; done)
    rename_i v hv'
    have hm0 : MRel w0 ρ ⟨manyB m.blks vs, m.nxt, m.lo⟩ w := ⟨fun b cs h => hm.blk b cs (manyL_lk h).1, hm.inj, hm.fresh, hm.dom, hm.own, hm.bel, hm.lon⟩
    have := e.ok vs ⟨manyB m.blks vs, m.nxt, m.lo⟩ v hg hv' w0 ρ xs w hv hm0
    rw [hid] at this
    exact this o a next Q fun x w' ⟨h1, h2⟩ => hn v m ρ x w' (Ext.refl _) h1 (hm.below h2) h

theorem St.evs_same {s s' : St} : ∀ {xs : List Operand}, (∀ x ∈ xs, s'.ev x = s.ev x) → s'.evs xs = s.evs xs
  | [], _ => rfl
  | x :: xs, h => by simp only [St.evs, h x (by simp), St.evs_same (xs := xs) (fun y hy => h y (by simp [hy]))]
theorem St.evps_same {s s' : St} : ∀ {xs : List (Nat × Operand)}, (∀ x ∈ xs, s'.ev x.2 = s.ev x.2) → s'.evps xs = s.evps xs
  | [], _ => rfl
  | (i, x) :: xs, h => by simp only [St.evps, h (i, x) (by simp), St.evps_same (xs := xs) (fun y hy => h y (by simp [hy]))]

/-- A quiet operation that loads nothing hangs on its operands alone. -/
theorem opk_same {T : List (TyE P)} {call : CallK V} {s s' : St} {o : Oper} (hq : quiet o.op = true) (hl : isLd o = false) (h : ∀ x ∈ o.op.operands, s'.ev x = s.ev x) :
    opk T call s' o (fun v _ => some v) = opk T call s o (fun v _ => some v) := by
  obtain ⟨dst, op, type, pos, after, guard⟩ := o
  cases op <;> simp only [quiet, isLd, Bool.false_eq_true] at hq hl <;> try (cases hl; done)
  all_goals simp only [Op.operands] at h
  case move x => simp only [opk, h x (by simp)]
  case assign x => simp only [opk, h x (by simp)]
  case pick c x y => simp only [opk, h c (by simp), h x (by simp), h y (by simp)]
  case build t ps => simp only [opk, St.evps_same (s := s) (s' := s') (xs := ps.toList) (fun x hx => h x.2 (by simp; exact ⟨x.1, by simpa using hx⟩))]
  case binOp op xt x y yt => simp only [opk, h x (by simp), h y (by simp)]
  case unOp op xt x => simp only [opk, h x (by simp)]
  case convert st dt x => simp only [opk, h x (by simp)]
  case extract x i => simp only [opk, h x (by simp)]
  case field t x i => simp only [opk, h x (by simp)]
  case fieldAddr t x i => simp only [opk, h x (by simp)]
  case index t x i => simp only [opk, h x (by simp), h i (by simp)]
  case indexAddr t x i => simp only [opk, h x (by simp), h i (by simp)]
  case nilCheck x => simp only [opk, h x (by simp)]
  case makeFunc fn first caps => cases fn <;> simp only [opk] <;> simp only [St.evs_same (s := s) (s' := s') (xs := caps.toList) (fun x hx => h x (by simp; exact .inr (by simpa using hx)))]
  case call c =>
    have he : s'.evs c.args.toList = s.evs c.args.toList := St.evs_same fun x hx => h x (by simp [Call.operands]; exact .inr (by simpa using hx))
    simp only [opk, he]
    split
    · rename_i hc; rw [hc] at hq; simp at hq
    all_goals rfl
  all_goals (first | (simp only [opk]; done) | rfl)

section
variable {ops : Array Oper} {es : List Eff} {s s' : St} {T : List (TyE P)} {Es : List (Ent P)} {w0 : World} {ρ0 : Nat → Option Nat} {listed : Array Bool} {ρ : Nat → Option Nat} {a : Act} {w : World} {i : Nat}
  {Q : Exit → Act → World → Prop} {K : Act → World → Prop}

theorem DS.step (hrun : drawR T Es ops.toList s = some (es, s')) (hall : okAll 0 ops.toList es = true) (hD : DS ops.toList es s s'.mm.nxt w0 ρ0 listed ρ a w) (hr : i ∈ Region.ready .any ops listed)
    (hK : ∀ ρ' a' w', DS ops.toList es s s'.mm.nxt w0 ρ0 (listed.setIfInBounds i true) ρ' a' w' → K a' w') : wpOp P ops Q i K a w := by
  obtain ⟨hun, o, ho', hed'⟩ := mem_ready.1 hr
  have ho : ops.toList[i]? = some o := by simpa using ho'
  have hed : ∀ e ∈ o.after, Region.binds .any e = true → exL listed e.on := hed'
  have hlen := drawR_len hrun
  obtain ⟨e, he⟩ : ∃ e, es[i]? = some e := by
    have : i < es.length := by rw [hlen]; exact (List.getElem?_eq_some_iff.1 ho).1
    exact ⟨_, List.getElem?_eq_getElem this⟩
  obtain ⟨si, hkn, hid, hg, hfits, heff⟩ := drawR_at hrun i o e ho he
  obtain ⟨hend, hnx, hnew⟩ := drawR_end hrun
  have hval := valE_at es _ i _ e he hid
  have hf : ∀ d, o.dst = some d → d < s.n := fun d hd => by
    rw [hd] at hfits
    have : d < si.n := by simpa [St.fits] using hfits
    rwa [hkn.n] at this
  unfold wpOp
  simp only [ho']
  have hw : Region.wanted o (yielded ops a.tmps) = true := by simp [Region.wanted, hg]
  rw [if_pos hw]
  left
  unfold Oper.wp
  -- the operands, as the text's order knows them
  have hfresh : ∀ b, s'.mm.nxt ≤ b → ρ b = none := fun b hb => by
    cases hρ : ρ b with
    | none => rfl
    | some r =>
      exfalso
      rcases hD.fr b r hρ with h | ⟨i', c, h1, h2, h3⟩
      · omega
      · have := hnew i' b ⟨c, h2⟩ h3; omega
  have base : ∀ bl : List (Nat × List V), (∀ b cs, lk bl b = some cs → Loc ρ w b cs) → Rel w ρ ⟨pickL si.tm (looksT o), s.n, ⟨bl, s'.mm.nxt, s'.mm.nxt⟩⟩ a w := fun bl hbl => by
    refine ⟨fun t v ht => ?_, hD.sz, hD.df, ⟨hbl, hD.inj, hfresh, hD.dom, (fun b r hb hr => by rw [hfresh b hb] at hr; cases hr), Below.refl _ _, Nat.le_refl _⟩⟩
    obtain ⟨h1, h2⟩ := (pickL_lk (tm := si.tm) (ts := looksT o) (t := t)).2 v ht
    exact hD.tm t v (look_tm hall hlen hD ho he hun hed h1 (hkn.tm t v h2))
  have hev : ∀ (bl : List (Nat × List V)), ∀ x ∈ o.op.operands, (St.mk (pickL si.tm (looksT o)) s.n ⟨bl, s'.mm.nxt, s'.mm.nxt⟩).ev x = si.ev x := fun bl x hx => by
    cases x with
    | tmp t =>
      refine (pickL_lk (tm := si.tm) (ts := looksT o) (t := t)).1 ?_
      unfold looksT
      exact List.mem_filterMap.2 ⟨.tmp t, by simpa using hx, rfl⟩
    | _ => rfl
  have R0 := base [] (fun b cs h => by simp [lk] at h)
  have ev0 := hev []
  -- behind a value
  have fin : ∀ (v : V) (rd : List Nat) (x : Value) (w' : World), e = .val v rd → VR ρ v x → Below w.heap.size w w' → K (a.put o.dst x) w' := fun v rd x w' h1 h2 h3 => by
    rw [h1] at hval
    exact hK ρ _ w' (DS.val hall hlen hD ho he hun hed h1 hval h2 hf h3)
  have cells : ∀ x v, x ∈ o.op.operands → si.ev x = some v → VR ρ v (a.eval x) := fun x v hx hv => R0.ev (by rw [ev0 x hx]; exact hv)
  unfold effOf at heff
  split at heff
  · -- alloc
    rename_i t hop
    split at heff <;> try (cases heff; done)
    rename_i ty hty
    cases heff
    have htid := tyf_id hty
    obtain ⟨z, hz, hzc⟩ := ty.run_zero w
    rw [htid] at hz
    have hzc' : z.cells = (ty.zero.map V.valD).toArray := by rw [← hzc]
    obtain ⟨ρ', hD'⟩ := DS.new (w := w) (ty := t) hall hlen hD ho he hun hed rfl hid hval (VRs.valD ty.hp) hf
    simp only [execOp, hop, Instr.alloc, Sem.run_bind, hz, Result.andThen_ok, newVar, newRow, run_newObj, Sem.run_pure, Oper.upon, hzc']
    exact hK ρ' _ _ hD'
  · -- box
    rename_i t x hop
    split at heff <;> try (cases heff; done)
    rename_i v hv
    cases heff
    have hc := (cells x v (by simp [hop, Op.operands]) hv).cells
    obtain ⟨ρ', hD'⟩ := DS.new (w := w) (ty := t) hall hlen hD ho he hun hed rfl hid hval hc hf
    simp only [Array.toArray_toList] at hD'
    simp only [execOp, hop, Instr.box, newVar, newRow, Sem.run_bind, run_newObj, Result.andThen_ok, Sem.run_pure, Oper.upon]
    exact hK ρ' _ _ hD'
  · -- store
    rename_i t x y hop
    split at heff <;> try (cases heff; done)
    rename_i ty b off v hty hx hy
    have htid := tyf_id hty
    cases hb : (Nat.beq v.cells.length ty.size && Nat.blt b si.mm.nxt) with
    | false => simp [hb] at heff
    | true =>
      simp only [hb, cond_true] at heff
      simp only [Bool.and_eq_true] at hb
      split at heff <;> try (cases heff; done)
      rename_i m hm
      split at heff <;> try (cases heff; done)
      rename_i cs hcs
      cases heff
      have hxv := cells x _ (by simp [hop, Op.operands]) hx
      have hyv := (cells y _ (by simp [hop, Op.operands]) hy).cells
      cases hxe : a.eval x <;> rw [hxe] at hxv <;> cases hxv
      rename_i r0 hr0
      -- the block, as it lies
      obtain ⟨old, hold⟩ : ∃ old, lk si.mm.blks b = some old := by
        unfold Mem.store at hm
        split at hm
        · rename_i cs hc; exact ⟨cs, hc⟩
        · cases hm
      have hcm := look_mm hall hlen hD ho he hun hed (.inr ⟨cs, rfl⟩) (hkn.mm b old hold) (hD.fr b r0 hr0)
      have hloc := hD.mm b old hcm (hD.fr b r0 hr0)
      have hlo : s.mm.lo ≤ b := by
        unfold Mem.store at hm
        rw [hold] at hm
        cases hbb : (Nat.ble si.mm.lo b && (Nat.ble (off + v.cells.length) old.length && v.cells.all V.atom)) with
        | false => simp [hbb] at hm
        | true =>
          simp only [Bool.and_eq_true] at hbb
          have := Nat.le_of_ble_eq_true hbb.1
          rwa [hkn.lo] at this
      have hm2 : (Mem.mk [(b, old)] (s'.mm.nxt) s.mm.lo).store b off v.cells = some ⟨[(b, cs), (b, old)], s'.mm.nxt, s.mm.lo⟩ := by
        unfold Mem.store at hm ⊢
        rw [hold] at hm
        simp only [lk_cons, if_true]
        cases hbb : (Nat.ble si.mm.lo b && (Nat.ble (off + v.cells.length) old.length && v.cells.all V.atom)) with
        | false => simp [hbb] at hm
        | true =>
          simp only [hbb, cond_true, Option.some.injEq] at hm
          subst hm
          simp only [lk_cons, if_true, Option.some.injEq] at hcs
          rw [hkn.lo] at hbb
          simp only [hbb, cond_true, hcs]
      have hmr : MRel w0 ρ ⟨[(b, old)], s'.mm.nxt, s.mm.lo⟩ w := by
        refine ⟨fun b' cs' h => ?_, hD.inj, hfresh, hD.dom, hD.own, hD.bel, Nat.le_trans hD.lon hnx⟩
        simp only [lk_cons] at h
        by_cases hbb : b = b'
        · subst hbb; simp at h; subst h; exact hloc
        · rw [if_neg hbb] at h; simp [lk] at h
      obtain ⟨r', w', hr', hrun', hmr', hsame⟩ := hmr.store' (P := P) hm2 hyv
      rw [hr0] at hr'; cases hr'
      have hl := hyv.length
      have hsz' := Nat.eq_of_beq_eq_true hb.1
      have h2 := ty.run_size w
      rw [htid] at h2
      have hcl : (a.eval y).cells.size = ty.size := by simpa [hsz'] using hl
      simp only [execOp, hop, hxe, Instr.storeAt, Instr.sureAddr, storeVar, Sem.run_bind, Sem.run_pure, Result.andThen_ok, h2, hcl, ne_eq, not_true_eq_false, if_false, hrun', Oper.upon]
      refine hK ρ _ w' (DS.st hall hlen hD ho he hun hed rfl hval hr0 hsame.1 hsame.2 hmr'.bel (hmr'.blk b cs (by simp [lk_cons])) hf)
  · cases heff
  · -- the rest
    rename_i n1 n2 n3 n4
    split at heff <;> try (cases heff; done)
    rename_i v hv
    cases heff
    cases hq : quiet o.op with
    | true =>
      cases hl : isLd o with
      | false =>
        have hv' := hv
        rw [← opk_same (s' := ⟨pickL si.tm (looksT o), s.n, ⟨[], s'.mm.nxt, s'.mm.nxt⟩⟩) hq hl ev0] at hv'
        refine opk_sound (callD_ok Es w) hv' R0 fun u m' ρ' x w' h1 h2 h3 h4 h5 => ?_
        obtain ⟨rfl, rfl⟩ := h4 hq
        cases h5
        exact fin v _ x w' rfl h2 (Below.refl _ _)
      | true =>
        obtain ⟨t, x, hop⟩ : ∃ t x, o.op = .load t x := by
          unfold isLd at hl
          split at hl
          · rename_i t x hop; exact ⟨t, x, hop⟩
          · cases hl
        have hxm : x ∈ o.op.operands := by simp [hop, Op.operands]
        simp only [opk, hop] at hv
        split at hv <;> try (cases hv; done)
        rename_i ty b off hty hx
        have hxv := cells x _ hxm hx
        have hxe : ∃ r, a.eval x = .pointer (some ⟨r, off, none⟩) ∧ ρ b = some r := by
          cases hh : a.eval x <;> rw [hh] at hxv <;> cases hxv
          rename_i r hr; exact ⟨r, rfl, hr⟩
        obtain ⟨r, hxe, hrb⟩ := hxe
        have hblk : ∃ cs, lk si.mm.blks b = some cs := by
          split at hv <;> try (cases hv; done)
          · split at hv <;> try (cases hv; done)
            rename_i cs hcs
            unfold Mem.load at hcs
            split at hcs
            · rename_i cs' hc; exact ⟨cs', hc⟩
            · cases hcs
          · split at hv <;> try (cases hv; done)
            rename_i u hu
            unfold Mem.load1 at hu
            split at hu
            · rename_i cs' hc; exact ⟨cs', hc⟩
            · cases hu
        obtain ⟨cs, hcs⟩ := hblk
        have hcm := look_mm hall hlen hD ho he hun hed (.inl ⟨v, _, rfl, by simp [rdOf, hop, hx, hasN]⟩) (hkn.mm b cs hcs) (hD.fr b r hrb)
        have hloc := hD.mm b cs hcm (hD.fr b r hrb)
        have R1 := base [(b, cs)] (fun b' cs' h => by
          simp only [lk_cons] at h
          by_cases hbb : b = b'
          · subst hbb; simp at h; subst h; exact hloc
          · rw [if_neg hbb] at h; simp [lk] at h)
        have hx1 := hev [(b, cs)] x hxm
        rw [hx] at hx1
        have hv' : opk T (callD Es) ⟨pickL si.tm (looksT o), s.n, ⟨[(b, cs)], s'.mm.nxt, s'.mm.nxt⟩⟩ o (fun v _ => some v) = some v := by
          unfold opk
          rw [hop]
          simp only [hty, hx1, Mem.load, Mem.load1, lk_cons, if_true]
          simp only [Mem.load, Mem.load1, hcs] at hv
          exact hv
        refine opk_sound (callD_ok Es w) hv' R1 fun u m' ρ' x w' h1 h2 h3 h4 h5 => ?_
        obtain ⟨rfl, rfl⟩ := h4 hq
        cases h5
        exact fin v _ x w' rfl h2 (Below.refl _ _)
    | false =>
      -- a call
      cases hop : o.op <;> rw [hop] at hq <;> simp only [quiet, Bool.true_eq_false] at hq
      case alloc t => exact (n1 t hop).elim
      case box t x => exact (n2 t x hop).elim
      case store t x y => exact (n3 t x y hop).elim
      case buildSlice t n ps => exact (n4 t n ps hop).elim
      case call c =>
        split at hq <;> try (cases hq; done)
        rename_i f hc
        simp only [opk, hop, hc] at hv
        split at hv <;> try (cases hv; done)
        rename_i g caps vs hfv hvs
        have hmem : ∀ x ∈ f :: c.args.toList, x ∈ o.op.operands := fun x hx => by
          simp only [hop, Op.operands, Call.operands, hc]
          simpa using hx
        have hfr := cells f _ (hmem f (by simp)) hfv
        cases hfe : a.eval f <;> rw [hfe] at hfr <;> cases hfr
        rename_i xs hxs
        have hargs : VRs ρ vs (c.args.toList.map a.eval) := R0.evs (by
          rw [St.evs_same (s := si) (fun x hx => ev0 x (hmem x (by simp [hx])))]; exact hvs)
        have hall' := hargs.append hxs
        unfold callD at hv
        split at hv <;> try (cases hv; done)
        rename_i en hen
        have hid' := entf_id hen
        cases hgd : en.g (vs ++ caps) (manyB si.mm.blks (vs ++ caps)) with
        | false => simp [hgd] at hv
        | true =>
          simp only [hgd, cond_true] at hv
          split at hv <;> try (cases hv; done)
          rename_i u hu
          cases hv
          have hmr : MRel w ρ ⟨manyB si.mm.blks (vs ++ caps), s'.mm.nxt, s'.mm.nxt⟩ w := by
            refine ⟨fun b cs hb => ?_, R0.mr.inj, R0.mr.fresh, R0.mr.dom, R0.mr.own, R0.mr.bel, R0.mr.lon⟩
            obtain ⟨hcs, hp⟩ := manyL_lk hb
            obtain ⟨r, hrb⟩ := ptrsOf_VRs hp hall'
            have hcm := look_mm hall hlen hD ho he hun hed (.inl ⟨v, _, rfl, by simp only [rdOf, hop, hc, hfv, hvs, hp]⟩) (hkn.mm b cs hcs) (hD.fr b r hrb)
            exact hD.mm b cs hcm (hD.fr b r hrb)
          have hdo := en.ok (vs ++ caps) ⟨manyB si.mm.blks (vs ++ caps), s'.mm.nxt, s'.mm.nxt⟩ v hgd hu w ρ _ w hall' hmr
          rw [hid'] at hdo
          have e : (execOp a.eval o).run P w = (callFunc g ((c.args.toList.map a.eval) ++ xs).toArray).run P w := by
            simp only [execOp, hop, resolve, hc, hfe, Deferred.ofValue, pure_bind, invoke]
            congr 2
            simp
          rw [e]
          exact hdo o a K Q fun x w' ⟨h1, h2⟩ => fin v _ x w' rfl h1 h2

theorem filter_set {listed : Array Bool} {i : Nat} (hlt : i < listed.size) (hif : listed.getD i false = false) : ∀ (l : List Nat), l.Nodup → i ∈ l →
    (l.filter fun k => !listed.getD k false).length = (l.filter fun k => !(listed.setIfInBounds i true).getD k false).length + 1
  | [], _, h => by simp at h
  | x :: l, hnd, hm => by
    obtain ⟨h1, h2⟩ := List.nodup_cons.1 hnd
    by_cases hx : x = i
    · subst hx
      have e : (l.filter fun k => !(listed.setIfInBounds x true).getD k false) = l.filter fun k => !listed.getD k false := by
        apply List.filter_congr
        intro k hk
        rw [getD_set_ne (listed := listed) (i := x) (j := k) false (fun e => h1 (e.symm ▸ hk))]
      have e1 : (!listed.getD x false) = true := by rw [hif]; rfl
      have e2 : (!(listed.setIfInBounds x true).getD x false) = false := by simp [hlt]
      rw [List.filter_cons, List.filter_cons, e1, e2, e]
      simp
    · have hm' : i ∈ l := by
        rcases List.mem_cons.1 hm with h | h
        · exact absurd h.symm hx
        · exact h
      have ih := filter_set hlt hif l h2 hm'
      have e : (listed.setIfInBounds i true).getD x false = listed.getD x false := getD_set_ne false (fun e => hx e.symm)
      rw [List.filter_cons, List.filter_cons, e]
      split
      · simp only [List.length_cons]; omega
      · exact ih

/-- Whatever order the tape picks. -/
theorem drawk_ok (hm : P.follows .mixedOrders = true) {A : Type} : DrawOk P w0 (drawk (A := A) T Es) := by
  intro id ops s K r h ρ0 a w Q hr hq
  unfold drawk at h
  split at h <;> try (cases h; done)
  rename_i es s' hrun
  cases hall : okAll 0 ops.toList es with
  | false => simp [hall] at h
  | true =>
    simp only [hall, cond_true] at h
    have hlen := drawR_len hrun
    obtain ⟨hend, hnx, hnew⟩ := drawR_end hrun
    have main : ∀ (fuel : Nat) (listed : Array Bool) (ρ : Nat → Option Nat) (a : Act) (w : World), DS ops.toList es s s'.mm.nxt w0 ρ0 listed ρ a w →
        (((List.range ops.size).filter fun k => !listed.getD k false).length = fuel) → wpAny P .any ops Q fuel listed a w := by
      intro fuel
      induction fuel with
      | zero =>
        intro listed ρ a w hD hcount
        have hallx : ∀ k, k < ops.size → exL listed k := fun k hk => by
          have : k ∉ (List.range ops.size).filter fun k => !listed.getD k false := by
            rw [List.length_eq_zero_iff.1 hcount]; simp
          simp only [List.mem_filter, List.mem_range, hk, true_and, Bool.not_eq_true'] at this
          unfold exL; simpa using this
        refine ⟨?_, ?_⟩
        · cases hrd : Region.ready .any ops listed with
          | nil => rfl
          | cons x t =>
            exfalso
            have hx : x ∈ Region.ready .any ops listed := by rw [hrd]; simp
            obtain ⟨h1, o, h2, _⟩ := mem_ready.1 hx
            have hk : x < ops.size := (Array.getElem?_eq_some_iff.1 h2).1
            have := hallx x hk
            unfold exL at this
            have hlt : x < listed.size := by rw [hD.lsz]; simpa using hk
            simp [hlt] at h1 this
            rw [h1] at this; cases this
        · refine hq s' ρ a w hD.ext ⟨fun t v ht => ?_, by rw [hD.sz, hend.n], hD.df, ⟨fun b cs hc => ?_, hD.inj, fun b hb => ?_, hD.dom, fun b r hb hr' => hD.own b r (by rw [← hend.lo]; exact hb) hr', hD.bel, ?_⟩⟩ h
          · refine hD.tm t v ?_
            rcases hend.tm t v ht with ⟨j, oj, h1, h2, h3, h4⟩ | ⟨h1, h2⟩
            · exact .inl ⟨j, oj, h1, hallx j (by simpa using h2), h3, h4⟩
            · exact .inr ⟨fun k ok hk hex => h1 k ok hk (List.getElem?_eq_some_iff.1 hk).1, h2⟩
          · have hcm : CM es (idE s.mm.nxt es) s.mm.blks (exL listed) b cs := by
              rcases hend.mm b cs hc with ⟨j, h1, h2⟩ | ⟨h1, h2⟩
              · exact .inl ⟨j, hallx j (by simpa using h1), h2⟩
              · refine .inr ⟨fun k cs' hex hst => h1 k cs' (by rw [← hlen]; exact (List.getElem?_eq_some_iff.1 hst).1) hst, ?_⟩
                rcases h2 with ⟨j, h3, h4, h5⟩ | h2
                · exact .inl ⟨j, hallx j (by simpa using h3), h4, h5⟩
                · exact .inr h2
            refine hD.mm b cs hcm ?_
            rcases hcm with ⟨j, h1, h2⟩ | ⟨h1, ⟨j, h3, h4, h5⟩ | h2⟩
            · obtain ⟨r, hr'⟩ := hD.stx j b cs h1 h2
              exact hD.fr b r hr'
            · exact .inr ⟨j, cs, h3, h4, h5⟩
            · obtain ⟨r, hr'⟩ := hD.ini b cs h2
              left
              rcases Nat.lt_or_ge b s.mm.nxt with h | h
              · exact h
              · have := hr.mr.fresh b h; rw [this] at hr'; cases hr'
          · cases hρ : ρ b with
            | none => rfl
            | some r' =>
              exfalso
              rcases hD.fr b r' hρ with h | ⟨i', c, h1, h2, h3⟩
              · omega
              · have := hnew i' b ⟨c, h2⟩ h3; omega
          · rw [hend.lo]; exact Nat.le_trans hr.mr.lon hnx
      | succ fuel ih =>
        intro listed ρ a w hD hcount
        refine ⟨fun hnil => ?_, fun i hi => ?_⟩
        · exfalso
          -- the first that has not come up is ready
          have hex : ∃ k, k < ops.size ∧ listed.getD k false = false := by
            have : ((List.range ops.size).filter fun k => !listed.getD k false) ≠ [] := by intro h; rw [h] at hcount; simp at hcount
            obtain ⟨k, hk⟩ := List.exists_mem_of_ne_nil _ this
            simp only [List.mem_filter, List.mem_range, Bool.not_eq_true'] at hk
            exact ⟨k, hk.1, hk.2⟩
          have hmin : ∃ k, k < ops.size ∧ listed.getD k false = false ∧ ∀ j, j < k → listed.getD j false = true := by
            have key : ∀ n k, k ≤ n → k < ops.size → listed.getD k false = false → ∃ k, k < ops.size ∧ listed.getD k false = false ∧ ∀ j, j < k → listed.getD j false = true := by
              intro n
              induction n with
              | zero => intro k h1 h2 h3; exact ⟨k, h2, h3, fun j hj => by omega⟩
              | succ n ihn =>
                intro k h1 h2 h3
                by_cases hj : ∃ j, j < k ∧ listed.getD j false = false
                · obtain ⟨j, hj1, hj2⟩ := hj
                  exact ihn j (by omega) (by omega) hj2
                · exact ⟨k, h2, h3, fun j hj1 => by
                    cases hh : listed.getD j false with
                    | true => rfl
                    | false => exact absurd ⟨j, hj1, hh⟩ hj⟩
            obtain ⟨k, h1, h2⟩ := hex
            exact key k k (Nat.le_refl _) h1 h2
          obtain ⟨k, hk1, hk2, hk3⟩ := hmin
          have hk4 : ops.toList[k]? = some ops[k] := by simp [hk1]
          have : k ∈ Region.ready .any ops listed := by
            refine mem_ready.2 ⟨?_, ops[k], by simp [hk1], fun e he hb => ?_⟩
            · have hlt : k < listed.size := by rw [hD.lsz]; simpa using hk1
              simp [hlt] at hk2 ⊢; exact hk2
            · have := okAll_back (i0 := 0) hlen.symm hall k hk4 e he hb
              exact hk3 _ (by omega)
          rw [hnil] at this; cases this
        · refine DS.step hrun hall hD hi fun ρ' a' w' hD' => ih _ ρ' a' w' hD' ?_
          -- one fewer
          have hi0 : listed.getD i true = false := (mem_ready.1 hi).1
          have hlt : i < listed.size := by
            rcases Nat.lt_or_ge i listed.size with h | h
            · exact h
            · simp [Array.getElem?_eq_none h] at hi0
          have hi1 : i < ops.size := by have := hD.lsz; simp at this; omega
          have hif : listed.getD i false = false := by simp [hlt] at hi0 ⊢; exact hi0
          have hsplit : ((List.range ops.size).filter fun k => !listed.getD k false).length = ((List.range ops.size).filter fun k => !(listed.setIfInBounds i true).getD k false).length + 1 := by
            exact filter_set hlt hif _ List.nodup_range (List.mem_range.2 hi1)
          omega
    have none : ∀ k, ¬ exL (Array.replicate ops.size false) k := fun k h => by
      unfold exL at h
      by_cases hk : k < ops.size <;> simp [hk] at h
    refine wp_region_any hm (main ops.size _ ρ0 a _ ⟨hr.sz, hr.df, Ext.refl _, fun t v ht => ?_, fun b cs hc _ => ?_, hr.mr.inj, hr.mr.dom, hr.mr.own, hr.mr.bel.drew, fun b r hρ => ?_, by simp, fun k o _ hex => ?_, fun k b cs hex => ?_, fun b cs hl => ?_, hr.mr.lon⟩ ?_)
    · rcases ht with ⟨j, oj, _, h2, _⟩ | ⟨_, h2⟩
      · exact (none j h2).elim
      · exact hr.tm t v h2
    · rcases hc with ⟨j, h1, _⟩ | ⟨_, ⟨j, h1, _⟩ | h2⟩
      · exact (none j h1).elim
      · exact (none j h1).elim
      · exact hr.mr.blk b cs h2
    · left
      rcases Nat.lt_or_ge b s.mm.nxt with h | h
      · exact h
      · have := hr.mr.fresh b h; rw [this] at hρ; cases hρ
    · exact (none k hex).elim
    · exact (none k hex).elim
    · obtain ⟨r, _, _, h1, _⟩ := hr.mr.blk b cs hl
      exact ⟨r, h1⟩
    · rw [List.filter_eq_self.2 (fun k hk => by simp at hk; simp [hk])]; simp
end
end
end Go.Proofs.YtcfflflcbacapaaGreat.Ev
