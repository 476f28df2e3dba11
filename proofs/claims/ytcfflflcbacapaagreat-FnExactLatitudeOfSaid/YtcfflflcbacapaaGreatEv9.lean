/-
  A small evaluator for the program's code: entries of closures that read what they have captured.
-/
import Derived.Test.YtcfflflcbacapaaGreatEv8
namespace Go.Proofs.YtcfflflcbacapaaGreat.Ev
open Go Go.RowKit
set_option linter.unusedSimpArgs false
set_option linter.unusedVariables false

/-- What a captured block holds. -/
class Cap (δ : Type) where
  ec : δ → List V
  dc : List V → Option δ
  dc_ec : ∀ cs d, dc cs = some d → cs = ec d
  pf : ∀ d, V.pfs (ec d) = true
/-- A captured function. -/
structure FnTag (k : Nat) where
instance (k : Nat) : Cap (FnTag k) where
  ec := fun _ => [.fn k []]
  dc := fun cs => match cs with
    | [.fn f []] => bif Nat.beq f k then some ⟨⟩ else none
    | _ => none
  dc_ec := fun cs d h => by
    split at h <;> try (cases h; done)
    rename_i f
    cases hf : Nat.beq f k with
    | false => simp [hf] at h
    | true => rw [Nat.eq_of_beq_eq_true hf]
  pf := fun _ => rfl
instance {α : Type} [Flat α] : Cap α where
  ec := Flat.put
  dc := fun cs => match Flat.get (α := α) cs with
    | some (x, []) => some x
    | _ => none
  dc_ec := fun cs d h => by
    split at h <;> try (cases h; done)
    rename_i h1
    cases h
    have := Flat.get_put _ _ _ h1
    rw [this]; simp
  pf := Flat.pf

section
variable {P : Program}

def capRun (t : Tb P) (b : Bod P) (vs : List V) (blks : List (Nat × List V)) (n : Nat) (γ : Type) [Enc γ] : Option γ :=
  runk t.T (callk t.T (fun _ => t.drw) t.Es t.Bs t.N t.d) t.drw t.N b vs ⟨blks, n, n⟩ fun v _ => dec v

theorem capRun_does {t : Tb P} {b : Bod P} {vs : List V} {blks : List (Nat × List V)} {n : Nat} {γ : Type} [Enc γ] {y : γ} (h : capRun t b vs blks n γ = some y) {ρ1 : Nat → Option Nat} {xs : List Value} {w : World}
    (hv : VRs ρ1 vs xs) (hm : MRel w ρ1 ⟨blks, n, n⟩ w) : Does P b.id xs.toArray w fun x w' => (∀ ρ, VR ρ (enc y) x) ∧ Below w.heap.size w w' := by
  intro o a next Q hn
  rw [callFunc_enter, Oper.upon_enter]
  refine (runk_sound (w0 := w) (callk_ok (fun _ _ => t.draw_ok w) t.d) (t.draw_ok w) h hv hm).mono fun e w' he => ?_
  obtain ⟨v, m', ρ', x, rfl, h1, h2, h3, h4⟩ := he
  have := Enc.dec_enc _ _ h4
  subst this
  exact hn x w' ⟨fun ρ => h2.pf (Enc.pf y), h3.bel⟩

/-- A closure of one argument with one captured block. -/
def Ent.cap1 {α δ γ : Type} [Enc α] [Cap δ] [Enc γ] (t : Tb P) (b : Bod P) (G : α → δ → Bool) (F : α → δ → γ)
    (h : ∀ x d, G x d = true → capRun t b [enc x, .ptr 0 0] [(0, Cap.ec d)] 1 γ = some (F x d)) : Ent P where
  id := b.id
  g := fun vs blks => match vs with
    | [x, .ptr k 0] => match (dec x : Option α), lk blks k with
      | some x, some cs => match (Cap.dc cs : Option δ) with
        | some d => G x d
        | none => false
      | _, _ => false
    | _ => false
  fn := fun vs blks => match vs with
    | [x, .ptr k 0] => match (dec x : Option α), lk blks k with
      | some x, some cs => match (Cap.dc cs : Option δ) with
        | some d => some (enc (F x d))
        | none => none
      | _, _ => none
    | _ => none
  ok := fun vs m v hg hf w0 ρ xs w hv hm => by
    split at hf <;> try (cases hf; done)
    rename_i x0 k
    split at hf <;> try (cases hf; done)
    rename_i x cs hx hk
    split at hf <;> try (cases hf; done)
    rename_i d hd
    cases hf
    simp only [hx, hk, hd] at hg
    have e1 := Enc.dec_enc _ _ hx
    have e2 := Cap.dc_ec _ _ hd
    subst e1; subst e2
    obtain ⟨r, ys, ty, hr, hrow, hys⟩ := hm.blk k _ hk
    cases hv with
    | cons h1 ht => cases ht with
      | cons h2 ht => cases ht with
        | nil =>
          cases h2
          rename_i r' hr'
          rw [hr] at hr'; cases hr'
          have h0 : (fun b => if b = 0 then some r else none : Nat → Option Nat) 0 = some r := rfl
          refine (capRun_does (ρ1 := fun b => if b = 0 then some r else none) (h x d hg) (.cons (h1.pf (Enc.pf x)) (.cons (.ptr h0) .nil)) ⟨fun b cs hb => ?_, ?_, ?_, ?_, ?_, Below.refl _ _, Nat.le_refl _⟩).mono fun v w' hh => ⟨hh.1 ρ, hh.2⟩
          · simp only [lk_cons] at hb
            by_cases hb0 : 0 = b
            · subst hb0; simp at hb; subst hb
              exact ⟨r, ys, ty, h0, hrow, hys.pf (Cap.pf d)⟩
            · rw [if_neg hb0] at hb; simp [lk] at hb
          · intro b b' q h3 h4; split at h3 <;> split at h4 <;> simp_all
          · intro b hb; rw [if_neg (by simp at hb; omega)]
          · intro b q hq
            split at hq
            · cases hq; exact hm.dom _ _ hr
            · cases hq
          · intro b q hb hq; rw [if_neg (by simp at hb; omega)] at hq; cases hq

/-- A closure of one argument with two captured blocks. -/
def Ent.cap2 {α δ ε γ : Type} [Enc α] [Cap δ] [Cap ε] [Enc γ] (t : Tb P) (b : Bod P) (G : α → δ → ε → Bool) (F : α → δ → ε → γ)
    (h : ∀ x d c, G x d c = true → capRun t b [enc x, .ptr 0 0, .ptr 1 0] [(0, Cap.ec d), (1, Cap.ec c)] 2 γ = some (F x d c)) : Ent P where
  id := b.id
  g := fun vs blks => match vs with
    | [x, .ptr k 0, .ptr j 0] => match (dec x : Option α), lk blks k, lk blks j with
      | some x, some cs, some cs' => match (Cap.dc cs : Option δ), (Cap.dc cs' : Option ε) with
        | some d, some c => bif Nat.beq k j then false else G x d c
        | _, _ => false
      | _, _, _ => false
    | _ => false
  fn := fun vs blks => match vs with
    | [x, .ptr k 0, .ptr j 0] => match (dec x : Option α), lk blks k, lk blks j with
      | some x, some cs, some cs' => match (Cap.dc cs : Option δ), (Cap.dc cs' : Option ε) with
        | some d, some c => some (enc (F x d c))
        | _, _ => none
      | _, _, _ => none
    | _ => none
  ok := fun vs m v hg hf w0 ρ xs w hv hm => by
    split at hf <;> try (cases hf; done)
    rename_i x0 k j
    split at hf <;> try (cases hf; done)
    rename_i x cs cs' hx hk hj
    split at hf <;> try (cases hf; done)
    rename_i d c hd hc
    cases hf
    simp only [hx, hk, hj, hd, hc] at hg
    cases hkj : Nat.beq k j with
    | true => simp [hkj] at hg
    | false =>
      simp only [hkj, cond_false] at hg
      have hne : k ≠ j := fun e => by subst e; simp at hkj
      have e1 := Enc.dec_enc _ _ hx
      have e2 := Cap.dc_ec _ _ hd
      have e3 := Cap.dc_ec _ _ hc
      subst e1; subst e2; subst e3
      obtain ⟨r, ys, ty, hr, hrow, hys⟩ := hm.blk k _ hk
      obtain ⟨q, zs, ty', hq, hrow', hzs⟩ := hm.blk j _ hj
      have hrq : r ≠ q := fun e => hne (hm.inj k j r hr (e ▸ hq))
      cases hv with
      | cons h1 ht => cases ht with
        | cons h2 ht => cases ht with
          | cons h3 ht => cases ht with
            | nil =>
              cases h2
              rename_i r' hr'
              rw [hr] at hr'; cases hr'
              cases h3
              rename_i q' hq'
              rw [hq] at hq'; cases hq'
              have h0 : (fun b => if b = 0 then some r else if b = 1 then some q else none : Nat → Option Nat) 0 = some r := rfl
              have h1' : (fun b => if b = 0 then some r else if b = 1 then some q else none : Nat → Option Nat) 1 = some q := rfl
              refine (capRun_does (ρ1 := fun b => if b = 0 then some r else if b = 1 then some q else none) (h x d c hg) (.cons (h1.pf (Enc.pf x)) (.cons (.ptr h0) (.cons (.ptr h1') .nil))) ⟨fun b cs hb => ?_, ?_, ?_, ?_, ?_, Below.refl _ _, Nat.le_refl _⟩).mono fun v w' hh => ⟨hh.1 ρ, hh.2⟩
              · simp only [lk_cons] at hb
                by_cases hb0 : 0 = b
                · subst hb0; simp at hb; subst hb
                  exact ⟨r, ys, ty, h0, hrow, hys.pf (Cap.pf d)⟩
                · rw [if_neg hb0] at hb
                  by_cases hb1 : 1 = b
                  · subst hb1; simp at hb; subst hb
                    exact ⟨q, zs, ty', h1', hrow', hzs.pf (Cap.pf c)⟩
                  · rw [if_neg hb1] at hb; simp [lk] at hb
              · intro b b' u h4 h5
                split at h4 <;> split at h5 <;> (try split at h4) <;> (try split at h5) <;> simp_all
              · intro b hb; rw [if_neg (by simp at hb; omega), if_neg (by simp at hb; omega)]
              · intro b u hu
                split at hu
                · cases hu; exact hm.dom _ _ hr
                · split at hu
                  · cases hu; exact hm.dom _ _ hq
                  · cases hu
              · intro b u hb hu; rw [if_neg (by simp at hb; omega), if_neg (by simp at hb; omega)] at hu; cases hu

/-! ### a drawn region whose first two operations alone may change places -/
def ordL {A : Type} (T : List (TyE P)) (call : CallK A) : List Oper → St → (St → Option A) → Option A
  | [], s, K => K s
  | o :: rest, s, K => bif s.fits o.dst then opk T call s o (fun v m => ordL T call rest (s.put o.dst v m) K) else none
def chain (P : Program) (Q : Exit → Act → World → Prop) : List Oper → Act → World → Prop
  | [], a, w => Q .normal a w
  | o :: rest, a, w => o.wp P a w (chain P Q rest) Q
theorem ordL_sound {A : Type} {T : List (TyE P)} {call : CallK A} {w0 : World} (hcall : CallOk P w0 call) {Q : Exit → Act → World → Prop} {r : A} : ∀ (l : List Oper) (s : St) (K : St → Option A), ordL T call l s K = some r →
    ∀ (ρ : Nat → Option Nat) (a : Act) (w : World), Rel w0 ρ s a w → (∀ s' ρ' a' w', Ext ρ ρ' → Rel w0 ρ' s' a' w' → K s' = some r → Q .normal a' w') → chain P Q l a w
  | [], s, K, h, ρ, a, w, hr, hq => hq s ρ a w (Ext.refl _) hr h
  | o :: rest, s, K, h, ρ, a, w, hr, hq => by
    simp only [ordL] at h
    cases hf : s.fits o.dst with
    | false => simp [hf] at h
    | true =>
      simp only [hf, cond_true] at h
      refine opk_sound hcall h hr fun v m' ρ' x w' e hv hm _ hk => ?_
      exact ordL_sound hcall rest _ K hk ρ' _ w' (hr.put e hv hf hm) fun s' ρ'' a' w'' e' h1 h2 => hq s' ρ'' a' w'' (e.trans e') h1 h2
def forced (ops : Array Oper) : List Nat → Array Bool → Bool
  | [], listed => (Region.ready .any ops listed).isEmpty
  | i :: t, listed => (match Region.ready .any ops listed with
    | [j] => Nat.beq i j
    | _ => false) && (match ops[i]? with
    | some o => o.guard.isNone
    | none => false) && forced ops t (listed.setIfInBounds i true)
def opsAt (ops : Array Oper) (l : List Nat) : List Oper := l.map fun i => ops.getD i default
theorem step_any {ops : Array Oper} {Q : Exit → Act → World → Prop} {i : Nat} {a : Act} {w : World} {K : Act → World → Prop} (hg : (match ops[i]? with
    | some o => o.guard.isNone
    | none => false) = true) (h : (ops.getD i default).wp P a w K Q) : wpOp P ops Q i K a w := by
  unfold wpOp
  cases ho : ops[i]? with
  | none => simp [ho] at hg
  | some o =>
    rw [ho] at hg
    have hgd : ops.getD i default = o := by simp [Array.getD_eq_getD_getElem?, ho]
    rw [hgd] at h
    have hgn : o.guard = none := by simpa using hg
    have hw : Region.wanted o (yielded ops a.tmps) = true := by simp [Region.wanted, hgn]
    simp only [hw, if_true]
    exact .inl h
theorem any_forced {ops : Array Oper} {Q : Exit → Act → World → Prop} : ∀ (l : List Nat) (listed : Array Bool) (a : Act) (w : World), forced ops l listed = true → chain P Q (opsAt ops l) a w → wpAny P .any ops Q l.length listed a w
  | [], listed, a, w, hf, h => ⟨by simpa [forced] using hf, h⟩
  | i :: t, listed, a, w, hf, h => by
    simp only [forced, Bool.and_eq_true] at hf
    obtain ⟨⟨h1, h2⟩, h3⟩ := hf
    cases hrd : Region.ready .any ops listed with
    | nil => rw [hrd] at h1; simp at h1
    | cons j tl =>
      cases tl with
      | cons k tl' => rw [hrd] at h1; simp at h1
      | nil =>
        rw [hrd] at h1
        have hij := Nat.eq_of_beq_eq_true h1
        subst hij
        refine ⟨fun hn => (by rw [hrd] at hn; cases hn), fun k hk => ?_⟩
        rw [hrd] at hk
        simp at hk; subst hk
        refine step_any h2 (Oper.wp_mono (K := chain P Q (opsAt ops t)) ?_ h)
        intro a' w' h'
        exact any_forced t _ a' w' h3 h'
def twoOk (ops : Array Oper) (i j : Nat) (l1 l2 : List Nat) : Bool :=
  (match Region.ready .any ops (Array.replicate ops.size false) with
    | [x, y] => Nat.beq x i && Nat.beq y j
    | _ => false) && (match ops[i]? with
    | some o => o.guard.isNone
    | none => false) && (match ops[j]? with
    | some o => o.guard.isNone
    | none => false) && forced ops l1 ((Array.replicate ops.size false).setIfInBounds i true) && forced ops l2 ((Array.replicate ops.size false).setIfInBounds j true) && Nat.beq (l1.length + 1) ops.size && Nat.beq (l2.length + 1) ops.size
theorem Rel.drew {w0 : World} {ρ : Nat → Option Nat} {s : St} {a : Act} {w : World} (h : Rel w0 ρ s a w) : Rel w0 ρ s a w.drew :=
  ⟨h.tm, h.sz, h.df, ⟨h.mr.blk, h.mr.inj, h.mr.fresh, h.mr.dom, h.mr.own, h.mr.bel.drew, h.mr.lon⟩⟩
theorem draw_two {A : Type} {T : List (TyE P)} {call : CallK A} {w0 : World} (hcall : CallOk P w0 call) (hm : P.follows .mixedOrders = true) {id : Nat} {ops : Array Oper} {i j : Nat} {l1 l2 : List Nat} (hz : twoOk ops i j l1 l2 = true) {s : St} {K : St → Option A} {r : A}
    (h1 : ordL T call (opsAt ops (i :: l1)) s K = some r) (h2 : ordL T call (opsAt ops (j :: l2)) s K = some r) {ρ : Nat → Option Nat} {a : Act} {w : World} {Q : Exit → Act → World → Prop} (hr : Rel w0 ρ s a w)
    (hq : ∀ s' ρ' a' w', Ext ρ ρ' → Rel w0 ρ' s' a' w' → K s' = some r → Q .normal a' w') : (Code.region id ops true).wp P Q a w := by
  simp only [twoOk, Bool.and_eq_true] at hz
  obtain ⟨⟨⟨⟨⟨⟨z1, z2⟩, z3⟩, z4⟩, z5⟩, z6⟩, z7⟩ := hz
  have c1 := ordL_sound hcall _ s K h1 ρ a w.drew hr.drew hq
  have c2 := ordL_sound hcall _ s K h2 ρ a w.drew hr.drew hq
  refine wp_region_any hm ?_
  have n1 := Nat.eq_of_beq_eq_true z6
  have n2 := Nat.eq_of_beq_eq_true z7
  suffices hh : wpAny P .any ops Q (l1.length + 1) (Array.replicate ops.size false) a w.drew by rw [n1] at hh; exact hh
  refine ⟨fun hn => ?_, fun k hk => ?_⟩
  · rw [hn] at z1; simp at z1
  · have hk' : k = i ∨ k = j := by
      cases hrd : Region.ready .any ops (Array.replicate ops.size false) with
      | nil => rw [hrd] at z1; simp at z1
      | cons x tl =>
        cases tl with
        | nil => rw [hrd] at z1; simp at z1
        | cons y tl =>
          cases tl with
          | cons z tl => rw [hrd] at z1; simp at z1
          | nil =>
            rw [hrd] at z1
            simp only [Bool.and_eq_true] at z1
            have e1 := Nat.eq_of_beq_eq_true z1.1
            have e2 := Nat.eq_of_beq_eq_true z1.2
            rw [hrd] at hk
            simp at hk
            omega
    rcases hk' with rfl | rfl
    · refine step_any z2 (Oper.wp_mono (K := chain P Q (opsAt ops l1)) ?_ c1)
      intro a' w' h'
      exact any_forced l1 _ a' w' z4 h'
    · refine step_any z3 (Oper.wp_mono (K := chain P Q (opsAt ops l2)) ?_ c2)
      intro a' w' h'
      have hl : l1.length = l2.length := by omega
      rw [hl]
      exact any_forced l2 _ a' w' z5 h'

/-! ### a function whose body is: a region, a drawn region with two orders, ret -/
def codeL : Code → Code
  | .seq a _ => a
  | c => c
def codeR : Code → Code
  | .seq _ b => b
  | c => c
def codeOps : Code → Array Oper
  | .region _ ops _ => ops
  | _ => #[]
def codeId : Code → Nat
  | .region id _ _ => id
  | _ => 0
def twoShape (c : Code) : Prop := c = .seq (codeL c) (.seq (.region (codeId (codeL (codeR c))) (codeOps (codeL (codeR c))) true) .ret)
def twoHead (t : Tb P) (b : Bod P) (vs : List V) : Option (X × St) :=
  evC (A := X × St) t.T (callk t.T (fun _ => t.drw) t.Es t.Bs t.N t.d) t.drw (fun _ => none) t.N (codeL b.code) ⟨zipF 0 vs, b.fn.ntmps, ⟨[], 0, 0⟩⟩ (fun x s => some (x, s))
def twoSt (t : Tb P) (b : Bod P) (vs : List V) : St := match twoHead t b vs with
  | some (_, s) => s
  | none => ⟨[], 0, ⟨[], 0, 0⟩⟩
def twoRun (t : Tb P) (b : Bod P) (vs : List V) (l : List Nat) (γ : Type) [Enc γ] : Option γ :=
  ordL t.T (callk t.T (fun _ => t.drw) t.Es t.Bs t.N t.d) (opsAt (codeOps (codeL (codeR b.code))) l) (twoSt t b vs) fun s' => match resv t.T s' b.fn.results.toList with
    | some us => dec (oneV us)
    | none => none
theorem run_two {t : Tb P} {b : Bod P} {i j : Nat} {l1 l2 : List Nat} (hsh : twoShape b.code) (hz : twoOk (codeOps (codeL (codeR b.code))) i j l1 l2 = true) (hlp : ∀ c' ∈ loopsOf (codeL b.code), False) {vs : List V} {γ : Type} [Enc γ] {y : γ} (s1 : St)
    (hs1 : evC (A := X × St) t.T (callk t.T (fun _ => t.drw) t.Es t.Bs t.N t.d) t.drw (fun _ => none) t.N (codeL b.code) ⟨zipF 0 vs, b.fn.ntmps, ⟨[], 0, 0⟩⟩ (fun x s => some (x, s)) = some (.norm, s1))
    (h1 : ordL t.T (callk t.T (fun _ => t.drw) t.Es t.Bs t.N t.d) (opsAt (codeOps (codeL (codeR b.code))) (i :: l1)) s1 (fun s' => match resv t.T s' b.fn.results.toList with
        | some us => (dec (oneV us) : Option γ)
        | none => none) = some y)
    (h2 : ordL t.T (callk t.T (fun _ => t.drw) t.Es t.Bs t.N t.d) (opsAt (codeOps (codeL (codeR b.code))) (j :: l2)) s1 (fun s' => match resv t.T s' b.fn.results.toList with
        | some us => (dec (oneV us) : Option γ)
        | none => none) = some y) (hle : vs.length ≤ b.fn.ntmps) (hp : V.pfs vs = true)
    {ρ : Nat → Option Nat} {xs : List Value} {w : World} (hv : VRs ρ vs xs) : Does P b.id xs.toArray w fun x w' => (∀ ρ, VR ρ (enc y) x) ∧ Below w.heap.size w w' := by
  intro o a next Q hn
  rw [callFunc_enter, Oper.upon_enter]
  have hl := hv.length
  have hv' : VRs (fun _ => none) vs xs := hv.pf hp
  refine Calls.mono (calls_of_wp (R := fun e w' => ∃ x, e = .returned x ∧ (∀ ρ, VR ρ (enc y) x) ∧ Below w.heap.size w w') b.hf b.hb ?_) fun e w' he => by
    obtain ⟨x, rfl, h3, h4⟩ := he
    exact hn x w' ⟨h3, h4⟩
  have hR : Rel w (fun _ => none) ⟨zipF 0 vs, b.fn.ntmps, ⟨[], 0, 0⟩⟩ { tmps := xs.toArray ++ Array.replicate (b.fn.ntmps - xs.toArray.size) undef, defers := [] } w := by
    refine ⟨fun t v ht => ?_, by simp; omega, rfl, MRel.empty w⟩
    obtain ⟨x, _, h1, h2⟩ := zipF_lk vs xs 0 t v hv' ht
    refine ⟨x, ?_, h2⟩
    have hlt : t < xs.length := by
      rcases Nat.lt_or_ge t xs.length with h | h
      · exact h
      · simp [List.getElem?_eq_none h] at h1
    have h1' : xs[t]? = some x := by simpa using h1
    simp only [Array.getElem?_append, List.size_toArray, hlt, if_true, List.getElem?_toArray, h1']
  rw [hsh]
  refine wp_seq (evC_sound (callk_ok (fun _ _ => t.draw_ok w) t.d) (t.draw_ok w) _ (fun c' hc => (hlp c' hc).elim) _ _ hs1 _ _ w _ hR fun x s' ρ' a' w' e hr' hk => ?_)
  simp only [Option.some.injEq, Prod.mk.injEq] at hk
  obtain ⟨rfl, rfl⟩ := hk
  refine wp_seq (draw_two (callk_ok (fun _ _ => t.draw_ok w) t.d) t.mix hz h1 h2 hr' fun s2 ρ2 a2 w2 e2 hr2 hk2 => ?_)
  refine wp_ret ?_
  split at hk2 <;> try (cases hk2; done)
  rename_i us hus
  obtain ⟨z, z1, z2⟩ := results_run (P := P) hr2 hus
  have hd := Enc.dec_enc _ _ hk2
  rw [hd] at z2
  exact ⟨hr2.df, z, z1, z, rfl, fun ρ3 => z2.pf (Enc.pf y), hr2.mr.bel⟩

def Ent.two1 {α γ : Type} [Enc α] [Enc γ] (t : Tb P) (b : Bod P) (G : α → Bool) (F : α → γ) (i : Nat) (l1 : List Nat) (j : Nat) (l2 : List Nat) (hsh : twoShape b.code) (hz : twoOk (codeOps (codeL (codeR b.code))) i j l1 l2 = true) (hlp : loopsOf (codeL b.code) = []) (hle : Nat.ble 1 b.fn.ntmps = true)
    (h0 : ∀ x : α, twoHead t b [enc x] = some (.norm, twoSt t b [enc x])) (h1 : ∀ x, G x = true → twoRun t b [enc x] (i :: l1) γ = some (F x)) (h2 : ∀ x, G x = true → twoRun t b [enc x] (j :: l2) γ = some (F x)) : Ent P where
  id := b.id
  g := fun vs _ => match vs with
    | [x] => match (dec x : Option α) with
      | some x => G x
      | _ => false
    | _ => false
  fn := fun vs _ => match vs with
    | [x] => match (dec x : Option α) with
      | some x => some (enc (F x))
      | _ => none
    | _ => none
  ok := fun vs m v hg hf w0 ρ xs w hv hm => by
    split at hf <;> try (cases hf; done)
    split at hf <;> try (cases hf; done)
    rename_i x hx
    cases hf
    simp only [hx] at hg
    have := Enc.dec_enc _ _ hx
    subst this
    exact (run_two hsh hz (fun c' hc => by rw [hlp] at hc; cases hc) (twoSt t b [enc x]) (h0 x) (h1 x hg) (h2 x hg) (by simpa using Nat.le_of_ble_eq_true hle) (by simp [V.pfs, Enc.pf]) hv).mono fun v w' h => ⟨h.1 ρ, h.2⟩
end
end Go.Proofs.YtcfflflcbacapaaGreat.Ev
