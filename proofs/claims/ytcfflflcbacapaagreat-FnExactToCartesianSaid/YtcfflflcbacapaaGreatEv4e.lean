/-
  A small evaluator for the program's code: regions that draw their order, walked branch by branch.
-/
import Derived.Test.YtcfflflcbacapaaGreatEv4d
namespace Go.Proofs.YtcfflflcbacapaaGreat.Ev
open Go Go.RowKit
set_option linter.unusedSimpArgs false
set_option linter.unusedVariables false

section
variable {P : Program}

theorem shft_nat {A B : Type} {op : BinOp} {k : IntKind} {mk : Rng k → V} {x : Rng k} {n : Int} {K : V → Option A} {r : A} (h : shft op mk x n K = some r) : ∃ v, (∀ K' : V → Option B, shft op mk x n K' = K' v) ∧ K v = some r := by
  unfold shft at h
  split at h <;> first | (cases h; done) | exact ⟨_, fun K' => rfl, h⟩
theorem arith_nat {A B : Type} {op : BinOp} {k : IntKind} {mk : Rng k → V} {x y : Rng k} {K : V → Option A} {r : A} (h : arith op mk x y K = some r) : ∃ v, (∀ K' : V → Option B, arith op mk x y K' = K' v) ∧ K v = some r := by
  unfold arith at h
  simp only [Bool.cond_eq_ite] at h
  split at h <;> try (cases h; done)
  all_goals first | exact ⟨_, fun K' => rfl, h⟩ | (split at h <;> first | (cases h; done) | (rename_i hc; exact ⟨_, fun K' => by simp [arith, hc], h⟩))
theorem bink_nat {A B : Type} {T : List (TyE P)} {op : BinOp} {xt : Nat} {a b : V} {K : V → Option A} {r : A} (h : bink T op xt a b K = some r) : ∃ v, (∀ K' : V → Option B, bink T op xt a b K' = K' v) ∧ K v = some r := by
  unfold bink at h
  simp only [Bool.cond_eq_ite] at h
  split at h
  · rename_i hs
    split at h <;> try (cases h; done)
    rename_i y neg hc
    split at h <;> try (cases h; done)
    rename_i hn
    split at h <;> try (cases h; done)
    all_goals
      obtain ⟨v, h1, h2⟩ := shft_nat (B := B) h
      exact ⟨v, fun K' => by simp only [bink, Bool.cond_eq_ite, hs, hc, hn, if_true, if_false, h1]; simp, h2⟩
  · rename_i hs
    split at h <;> try (cases h; done)
    · obtain ⟨v, h1, h2⟩ := arith_nat (B := B) h
      exact ⟨v, fun K' => by simp only [bink, Bool.cond_eq_ite, hs, if_false, h1]; simp, h2⟩
    · obtain ⟨v, h1, h2⟩ := arith_nat (B := B) h
      exact ⟨v, fun K' => by simp only [bink, Bool.cond_eq_ite, hs, if_false, h1]; simp, h2⟩
    · obtain ⟨v, h1, h2⟩ := arith_nat (B := B) h
      exact ⟨v, fun K' => by simp only [bink, Bool.cond_eq_ite, hs, if_false, h1]; simp, h2⟩
    · split at h <;> try (cases h; done)
      rename_i e he
      split at h <;> try (cases h; done)
      all_goals
        rename_i hk
        exact ⟨_, fun K' => by simp [bink, hs, he, hk], h⟩
    · split at h <;> try (cases h; done)
      rename_i e he
      split at h <;> try (cases h; done)
      rename_i hc
      split at h <;> try (cases h; done)
      rename_i fs hk
      split at h <;> try (cases h; done)
      rename_i q hq
      split at h <;> try (cases h; done)
      all_goals exact ⟨_, fun K' => by simp [bink, hs, he, hc, hk, hq], h⟩

theorem opk_nat {A B : Type} {T : List (TyE P)} {ca : CallK A} {cb : CallK B} (hc : ∀ f vs m K r, ca f vs m K = some r → ∃ v m', (∀ K' : V → Mem → Option B, cb f vs m K' = K' v m') ∧ K v m' = some r) {s : St} {o : Oper}
    {K : V → Mem → Option A} {r : A} (h : opk T ca s o K = some r) : ∃ v m, (∀ K' : V → Mem → Option B, opk T cb s o K' = K' v m) ∧ K v m = some r := by
  unfold opk at h ⊢
  cases hop : o.op <;> simp only [hop, Bool.cond_eq_ite] at h ⊢ <;> try (cases h; done)
  case binOp op xt x y yt =>
    split at h <;> try (cases h; done)
    rename_i a b ha hb
    obtain ⟨v, h1, h2⟩ := bink_nat (B := B) h
    exact ⟨v, s.mm, fun K' => by simp only [ha, hb, h1], h2⟩
  case call c =>
    split at h <;> try (cases h; done)
    · rename_i f hcal
      split at h <;> try (cases h; done)
      rename_i g caps vs hf hvs
      obtain ⟨v, m', h1, h2⟩ := hc _ _ _ _ _ h
      exact ⟨v, m', fun K' => by simp only [hcal, hf, hvs, h1], h2⟩
    all_goals
      rename_i hcal
      repeat' (split at h <;> try (cases h; done))
      all_goals exact ⟨_, _, fun K' => by simp only [*], h⟩
  case makeFunc fn first caps =>
    cases fn <;> simp only at h ⊢ <;> try (cases h; done)
    split at h <;> try (cases h; done)
    rename_i hs
    split at h <;> try (cases h; done)
    rename_i vs hv
    exact ⟨_, _, fun K' => by simp [hs, hv], h⟩
  all_goals
    repeat' (split at h <;> try (cases h; done))
    all_goals exact ⟨_, _, fun K' => by simp [*], h⟩

def callE {A : Type} (Es : List (Ent P)) : CallK A := fun f vs m K => match entf Es f with
  | some e => bif e.g vs (manyB m.blks vs) then match e.fn vs (manyB m.blks vs) with
      | some v => K v m
      | none => none
    else none
  | none => none
theorem callE_nat {A B : Type} (Es : List (Ent P)) (f vs m) (K : V → Mem → Option A) (r : A) (h : callE Es f vs m K = some r) : ∃ v m', (∀ K' : V → Mem → Option B, callE Es f vs m K' = K' v m') ∧ K v m' = some r := by
  unfold callE at h
  split at h <;> try (cases h; done)
  rename_i e he
  cases hg : e.g vs (manyB m.blks vs) with
  | false => simp [hg] at h
  | true =>
    simp only [hg, cond_true] at h
    split at h <;> try (cases h; done)
    rename_i v hv
    exact ⟨v, m, fun K' => by simp [callE, he, hg, hv], h⟩
theorem callE_callD (Es : List (Ent P)) : callE (A := V) Es = callD Es := rfl

def effK {A : Type} (T : List (TyE P)) (Es : List (Ent P)) (s : St) (o : Oper) (K : Eff → Option A) : Option A :=
  match o.op with
  | .alloc t => match tyf T t with
    | some e => K (.new e.zero)
    | none => none
  | .box _ x => match s.ev x with
    | some v => K (.new v.cells)
    | none => none
  | .store t x y => match tyf T t, s.ev x, s.ev y with
    | some e, some (.ptr b off), some v => bif Nat.beq v.cells.length e.size && Nat.blt b s.mm.nxt then match s.mm.store b off v.cells with
        | some m => match lk m.blks b with
          | some cs => K (.st b cs)
          | none => none
        | none => none
      else none
    | _, _, _ => none
  | .buildSlice _ _ _ => none
  | _ => opk T (callE Es) s o (fun v _ => K (.val v (rdOf s o)))

theorem effK_eff {A : Type} {T : List (TyE P)} {Es : List (Ent P)} {s : St} {o : Oper} {K : Eff → Option A} {r : A} (h : effK T Es s o K = some r) : ∃ e, effOf T Es s o = some e ∧ K e = some r := by
  unfold effK at h
  unfold effOf
  split at h <;> rename_i hop <;> try (cases h; done)
  · simp only [hop]
    split at h <;> try (cases h; done)
    rename_i e he
    exact ⟨_, by simp only [he], h⟩
  · simp only [hop]
    split at h <;> try (cases h; done)
    rename_i v hv
    exact ⟨_, by simp only [hv], h⟩
  · simp only [hop]
    split at h <;> try (cases h; done)
    rename_i e b off v he hx hy
    cases hb : (Nat.beq v.cells.length e.size && Nat.blt b s.mm.nxt) with
    | false => simp [hb] at h
    | true =>
      simp only [hb, cond_true] at h
      split at h <;> try (cases h; done)
      rename_i m hm
      split at h <;> try (cases h; done)
      rename_i cs hcs
      exact ⟨_, by simp only [he, hx, hy, hb, cond_true, hm, hcs], h⟩
  · obtain ⟨v, m, k1, k2⟩ := opk_nat (B := V) (cb := callD Es) (fun f vs m K r h => callE_nat (B := V) Es f vs m K r h) h
    refine ⟨.val v (rdOf s o), ?_, k2⟩
    split <;> rename_i hx <;> first | (simp_all; done) | rw [k1]

def drawRK {A : Type} (T : List (TyE P)) (Es : List (Ent P)) : List Oper → St → (List Eff → St → Option A) → Option A
  | [], s, K => K [] s
  | o :: rest, s, K => match o.guard with
    | some _ => none
    | none => bif s.fits o.dst then effK T Es s o fun e => drawRK T Es rest (s.eff o.dst e) fun es s' => K (e :: es) s' else none

theorem drawRK_R {A : Type} {T : List (TyE P)} {Es : List (Ent P)} : ∀ {os : List Oper} {s : St} {K : List Eff → St → Option A} {r : A}, drawRK T Es os s K = some r → ∃ es s', drawR T Es os s = some (es, s') ∧ K es s' = some r
  | [], s, K, r, h => ⟨[], s, rfl, h⟩
  | o :: rest, s, K, r, h => by
    simp only [drawRK] at h
    split at h <;> try (cases h; done)
    rename_i hg
    cases hf : s.fits o.dst with
    | false => simp [hf] at h
    | true =>
      simp only [hf, cond_true] at h
      obtain ⟨e, h1, h2⟩ := effK_eff h
      obtain ⟨es, s', h3, h4⟩ := drawRK_R h2
      exact ⟨e :: es, s', by simp only [drawR, hg, hf, cond_true, h1, h3], h4⟩

def drawkk {A : Type} (T : List (TyE P)) (Es : List (Ent P)) (ops : List Oper) (s : St) (K : St → Option A) : Option A :=
  drawRK T Es ops s fun es s' => bif okAll 0 ops es then K s' else none

theorem drawkk_ok {T : List (TyE P)} {Es : List (Ent P)} {w0 : World} (hm : P.follows .mixedOrders = true) {A : Type} : DrawOk P w0 (drawkk (A := A) T Es) := by
  intro id ops s K r h
  refine drawk_ok (T := T) (Es := Es) hm id ops s K r ?_
  unfold drawkk at h
  obtain ⟨es, s', h1, h2⟩ := drawRK_R h
  unfold drawk
  rw [h1]
  exact h2
end
end Go.Proofs.YtcfflflcbacapaaGreat.Ev
