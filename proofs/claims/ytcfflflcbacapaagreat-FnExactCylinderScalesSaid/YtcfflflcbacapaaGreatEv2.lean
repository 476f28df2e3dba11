/-
  A small evaluator for the program's code: the operations, and their soundness.
-/
import Derived.Test.YtcfflflcbacapaaGreatEv1
namespace Go.Proofs.YtcfflflcbacapaaGreat.Ev
open Go Go.RowKit
set_option linter.unusedSimpArgs false
set_option linter.unusedVariables false

/-! ### arithmetic -/
def bitop (op : BinOp) (k : IntKind) (x y : Int) : Int :=
  match op with
  | .and => ((BitVec.ofInt k.bits x &&& BitVec.ofInt k.bits y).toNat : Int)
  | .or => ((BitVec.ofInt k.bits x ||| BitVec.ofInt k.bits y).toNat : Int)
  | .xor => ((BitVec.ofInt k.bits x ^^^ BitVec.ofInt k.bits y).toNat : Int)
  | _ => ((BitVec.ofInt k.bits x &&& ~~~BitVec.ofInt k.bits y).toNat : Int)

def arith {A : Type} {k : IntKind} (op : BinOp) (mk : Rng k → V) (a b : Rng k) (K : V → Option A) : Option A :=
  match op with
  | .add => K (mk (.w k (a.val + b.val)))
  | .sub => K (mk (.w k (a.val - b.val)))
  | .mul => K (mk (.w k (a.val * b.val)))
  | .quo => bif b.val == 0 then none else K (mk (.w k (a.val.tdiv b.val)))
  | .rem => bif b.val == 0 then none else K (mk (.w k (a.val.tmod b.val)))
  | .and => K (mk (.w k (bitop .and k a.val b.val)))
  | .or => K (mk (.w k (bitop .or k a.val b.val)))
  | .xor => K (mk (.w k (bitop .xor k a.val b.val)))
  | .andNot => K (mk (.w k (bitop .andNot k a.val b.val)))
  | .eql => K (.bool (a.val == b.val))
  | .neq => K (.bool (a.val != b.val))
  | .lss => K (.bool (decide (a.val < b.val)))
  | .leq => K (.bool (decide (a.val ≤ b.val)))
  | .gtr => K (.bool (decide (a.val > b.val)))
  | .geq => K (.bool (decide (a.val ≥ b.val)))
  | _ => none

def shft {A : Type} {k : IntKind} (op : BinOp) (mk : Rng k → V) (a : Rng k) (y : Int) (K : V → Option A) : Option A :=
  match op with
  | .shl => K (mk (.w k (a.val * 2 ^ (min y.toNat k.bits))))
  | .shr => K (mk (.w k (a.val.fdiv (2 ^ (min y.toNat k.bits)))))
  | _ => none
def isShift : BinOp → Bool
  | .shl | .shr => true
  | _ => false

/-- A shift's count: its number, and whether it may be below zero. -/
def cnt : V → Option (Int × Bool)
  | .i64 y => some (y.val, decide (y.val < 0))
  | .u64 y => some (y.val, false)
  | .u8 y => some (y.val, false)
  | _ => none

def eqc : V → V → Option Bool
  | .i64 x, .i64 y => some (x.val == y.val)
  | .u64 x, .u64 y => some (x.val == y.val)
  | .u8 x, .u8 y => some (x.val == y.val)
  | _, _ => none
def eqf {P : Program} (T : List (TyE P)) : List (Nat × Nat × Nat) → List V → List V → Option Bool
  | [], _, _ => some true
  | (o, t, _) :: fs, xs, ys =>
    match tyf T t with
    | some e => match e.kd with
      | .int _ => match nth xs o, nth ys o with
        | some a, some b => match eqc a b with
          | some p => match eqf T fs xs ys with
            | some q => some (p && q)
            | none => none
          | none => none
        | _, _ => none
      | _ => none
    | none => none

def bink {P : Program} {A : Type} (T : List (TyE P)) (op : BinOp) (xt : Nat) (a b : V) (K : V → Option A) : Option A :=
  bif isShift op then
    match cnt b with
    | some (y, neg) => bif neg then none else match a with
      | .i64 x => shft op .i64 x y K
      | .u64 x => shft op .u64 x y K
      | .u8 x => shft op .u8 x y K
      | _ => none
    | none => none
  else match a, b with
    | .i64 x, .i64 y => arith op .i64 x y K
    | .u64 x, .u64 y => arith op .u64 x y K
    | .u8 x, .u8 y => arith op .u8 x y K
    | .bool x, .bool y => match tyf T xt with
      | some e => match e.kd, op with
        | .bool, .eql => K (.bool (x == y))
        | .bool, .neq => K (.bool (!(x == y)))
        | _, _ => none
      | none => none
    | .agg xs, .agg ys => match tyf T xt with
      | some e => bif e.cmp then match e.kd with
        | .struct fs => match eqf T fs xs ys with
          | some r => match op with
            | .eql => K (.bool r)
            | .neq => K (.bool (!r))
            | _ => none
          | none => none
        | _ => none
        else none
      | none => none
    | _, _ => none

def unv : UnOp → V → Option V
  | .neg, .i64 x => some (.i64 (.w .i64 (0 - x.val)))
  | .neg, .u64 x => some (.u64 (.w .u64 (0 - x.val)))
  | .xor, .i64 x => some (.i64 (.w .i64 (bitop .xor .i64 (-1) x.val)))
  | .xor, .u64 x => some (.u64 (.w .u64 (bitop .xor .u64 18446744073709551615 x.val)))
  | .not, .bool b => some (.bool (!b))
  | _, _ => none

def cnv : Kd → V → Option V
  | .int .i64, .i64 x => some (.i64 x)
  | .int .i64, .u64 x => some (.i64 (.w .i64 x.val))
  | .int .i64, .u8 x => some (.i64 (.w .i64 x.val))
  | .int .u64, .i64 x => some (.u64 (.w .u64 x.val))
  | .int .u64, .u64 x => some (.u64 x)
  | .int .u64, .u8 x => some (.u64 (.w .u64 x.val))
  | .int .u8, .i64 x => some (.u8 (.w .u8 x.val))
  | .int .u8, .u64 x => some (.u8 (.w .u8 x.val))
  | .int .u8, .u8 x => some (.u8 x)
  | _, _ => none

section
variable {P : Program} {A : Type} {ρ : Nat → Option Nat}

/-- What a run of a value-giving operation must be. -/
def Gives (P : Program) (ρ : Nat → Option Nat) (S : Sem Value) (K : V → Option A) (r : A) : Prop :=
  ∀ w, ∃ v x, S.run P w = .ok x w ∧ VR ρ v x ∧ K v = some r

theorem tmod_inB {k : IntKind} (a b : Rng k) : k.wrap (a.val.tmod b.val) = a.val.tmod b.val := by
  apply wrap_inB
  have ha := a.ok
  have h1 : (a.val.tmod b.val).natAbs ≤ a.val.natAbs := by rw [Int.natAbs_tmod]; exact Nat.mod_le _ _
  have h2 : 0 ≤ a.val → 0 ≤ a.val.tmod b.val := fun h => Int.tmod_nonneg _ h
  have h3 : a.val ≤ 0 → a.val.tmod b.val ≤ 0 := fun h => by
    have := Int.tmod_nonneg (a := -a.val) b.val (by omega)
    rw [Int.neg_tmod] at this; omega
  cases k <;> simp only [inB, Bool.and_eq_true, decide_eq_true_eq] at ha ⊢ <;> omega
theorem fdiv_inB {k : IntKind} (a : Rng k) (n : Nat) : k.wrap (a.val.fdiv (2 ^ n)) = a.val.fdiv (2 ^ n) := by
  apply wrap_inB
  have ha := a.ok
  have hp : (0 : Int) < 2 ^ n := Int.pow_pos (by decide)
  have he : a.val.fdiv (2 ^ n) = a.val / (2 ^ n) := Int.fdiv_eq_ediv_of_nonneg _ (Int.le_of_lt hp)
  rw [he]
  have h1 : (1 : Int) ≤ 2 ^ n := hp
  have u : 0 ≤ a.val → a.val / 2 ^ n ≤ a.val := fun h => Int.ediv_le_self _ h
  have u0 : 0 ≤ a.val → 0 ≤ a.val / 2 ^ n := fun h => Int.ediv_nonneg h (Int.le_of_lt hp)
  have l : a.val < 0 → a.val / 2 ^ n < 0 := fun h => Int.ediv_neg_of_neg_of_pos h hp
  have l' : a.val < 0 → a.val ≤ a.val / 2 ^ n := fun h => by
    have : a.val ≤ a.val / 2 ^ n ↔ a.val * 2 ^ n ≤ a.val := Int.le_ediv_iff_mul_le hp
    rw [this]
    have h2 : 0 ≤ (-a.val) * (2 ^ n - 1) := Int.mul_nonneg (by omega) (by omega)
    rw [Int.mul_sub, Int.mul_one, Int.neg_mul] at h2
    omega
  cases k <;> simp only [inB, Bool.and_eq_true, decide_eq_true_eq] at ha ⊢ <;> omega

theorem arith_gives {k : IntKind} {op : BinOp} {mk : Rng k → V} {a b : Rng k} {K : V → Option A} {r : A} (hmk : ∀ x, VR ρ (mk x) (.int k x.val))
    (h : arith op mk a b K = some r) (xt : Nat) (hs : isShift op = false) : Gives P ρ (Go.binOp op xt (.int k a.val) (.int k b.val)) K r := by
  intro w
  cases op <;> simp only [arith] at h <;> first
    | (cases h; done)
    | (simp [isShift] at hs; done)
    | skip
  case add => exact ⟨_, _, by simp [Go.binOp, Op.intArith]; rfl, hmk (.w k (a.val + b.val)), h⟩
  case sub => exact ⟨_, _, by simp [Go.binOp, Op.intArith]; rfl, hmk (.w k (a.val - b.val)), h⟩
  case mul => exact ⟨_, _, by simp [Go.binOp, Op.intArith]; rfl, hmk (.w k (a.val * b.val)), h⟩
  case quo =>
    cases hb : (b.val == 0) with
    | true => simp [hb] at h
    | false =>
      simp only [hb, cond_false] at h
      have hb' : ¬ b.val = 0 := by simpa using hb
      exact ⟨_, _, by simp [Go.binOp, Op.intDiv, hb']; rfl, hmk (.w k (a.val.tdiv b.val)), h⟩
  case rem =>
    cases hb : (b.val == 0) with
    | true => simp [hb] at h
    | false =>
      simp only [hb, cond_false] at h
      have hb' : ¬ b.val = 0 := by simpa using hb
      refine ⟨_, .int k (a.val.tmod b.val), by simp [Go.binOp, Op.intDiv, hb'], ?_, h⟩
      have := hmk (.w k (a.val.tmod b.val))
      rwa [Rng.val_w, tmod_inB] at this
  case and => exact ⟨_, .int k (k.wrap (bitop .and k a.val b.val)), by simp only [Go.binOp, ne_eq, not_true_eq_false, if_false]; rfl, hmk (.w k (bitop .and k a.val b.val)), h⟩
  case or => exact ⟨_, .int k (k.wrap (bitop .or k a.val b.val)), by simp only [Go.binOp, ne_eq, not_true_eq_false, if_false]; rfl, hmk (.w k (bitop .or k a.val b.val)), h⟩
  case xor => exact ⟨_, .int k (k.wrap (bitop .xor k a.val b.val)), by simp only [Go.binOp, ne_eq, not_true_eq_false, if_false]; rfl, hmk (.w k (bitop .xor k a.val b.val)), h⟩
  case andNot => exact ⟨_, .int k (k.wrap (bitop .andNot k a.val b.val)), by simp only [Go.binOp, ne_eq, not_true_eq_false, if_false]; rfl, hmk (.w k (bitop .andNot k a.val b.val)), h⟩
  case eql => exact ⟨_, _, by simp [Go.binOp, Op.intCmp], .bool _, h⟩
  case neq => exact ⟨_, _, by simp [Go.binOp, Op.intCmp], .bool _, h⟩
  case lss => exact ⟨_, _, by simp [Go.binOp, Op.intCmp], .bool _, h⟩
  case leq => exact ⟨_, _, by simp [Go.binOp, Op.intCmp], .bool _, h⟩
  case gtr => exact ⟨_, _, by simp [Go.binOp, Op.intCmp], .bool _, h⟩
  case geq => exact ⟨_, _, by simp [Go.binOp, Op.intCmp], .bool _, h⟩

theorem shft_gives {k k' : IntKind} {op : BinOp} {mk : Rng k → V} {a : Rng k} {y : Int} {K : V → Option A} {r : A} (hmk : ∀ x, VR ρ (mk x) (.int k x.val))
    (h : shft op mk a y K = some r) (xt : Nat) (hy : ¬ y < 0) : Gives P ρ (Go.binOp op xt (.int k a.val) (.int k' y)) K r := by
  intro w
  cases op <;> simp only [shft] at h <;> first | (cases h; done) | skip
  case shl => exact ⟨_, _, by simp [Go.binOp, Op.shift, hy]; rfl, hmk (.w k _), h⟩
  case shr =>
    refine ⟨_, .int k (a.val.fdiv (2 ^ min y.toNat k.bits)), by simp [Go.binOp, Op.shift, hy], ?_, h⟩
    have := hmk (.w k (a.val.fdiv (2 ^ min y.toNat k.bits)))
    rwa [Rng.val_w, fdiv_inB] at this

theorem eqc_run {a b : V} {x y : Value} {p : Bool} (h : eqc a b = some p) (ha : VR ρ a x) (hb : VR ρ b y) :
    ∃ k m n, x = .int k m ∧ y = .int k n ∧ p = (m == n) := by
  cases ha <;> cases hb <;> simp [eqc] at h <;> exact ⟨_, _, _, rfl, rfl, h.symm⟩

theorem TyE.int {e : TyE P} {k : IntKind} (h : e.kd = .int k) : P.underlying e.id = some (.int k) := by
  have hk := e.hk
  rw [h] at hk
  unfold kdOf at hk
  cases hu : P.underlying e.id with
  | none => rw [hu] at hk; simp at hk
  | some d => rw [hu] at hk; cases d <;> simp at hk; subst hk; rfl
theorem TyE.bool {e : TyE P} (h : e.kd = .bool) : P.underlying e.id = some .bool := by
  have hk := e.hk
  rw [h] at hk
  unfold kdOf at hk
  cases hu : P.underlying e.id with
  | none => rw [hu] at hk; simp at hk
  | some d => rw [hu] at hk; cases d <;> simp at hk; rfl

theorem eqf_run {T : List (TyE P)} (d : Nat) (w : World) {xs ys : List V} {us vs : List Value} (hx : VRs ρ xs us) (hy : VRs ρ ys vs) :
    ∀ (F : List Field) (p : Bool), (F.all fun f => f.name != "_") = true → eqf T (F.map fun f => (f.offset, f.type, P.cellsOf f.type)) xs ys = some p →
    (Op.eqFields (d + 1) us.toArray vs.toArray F).run P w = .ok p w
  | [], p, _, h => by simp [eqf] at h; subst h; simp [Op.eqFields]
  | f :: F, p, hn, h => by
    simp only [List.all_cons, Bool.and_eq_true] at hn
    have hn1 : f.name ≠ "_" := by simpa using hn.1
    simp only [List.map_cons, eqf] at h
    split at h <;> try (cases h; done)
    rename_i e he
    have hid := tyf_id he
    split at h <;> try (cases h; done)
    rename_i k hk
    split at h <;> try (cases h; done)
    rename_i a b hna hnb
    split at h <;> try (cases h; done)
    rename_i q hq
    split at h <;> try (cases h; done)
    rename_i q' hq'
    cases h
    rw [nth_eq] at hna hnb
    obtain ⟨x, hx1, hx2⟩ := hx.get _ hna
    obtain ⟨y, hy1, hy2⟩ := hy.get _ hnb
    obtain ⟨k', m, n, rfl, rfl, rfl⟩ := eqc_run hq hx2 hy2
    have hagg := e.run_agg (b := false) (by rw [hk]; rfl) w
    rw [hid] at hagg
    have hu := TyE.int hk
    rw [hid] at hu
    have p1 : (part f.type us.toArray f.offset).run P w = .ok (.int k' m) w := by simp [part, hagg, hx1]
    have p2 : (part f.type vs.toArray f.offset).run P w = .ok (.int k' n) w := by simp [part, hagg, hy1]
    have p3 := run_equalIn_int (P := P) w d f.type k' k m n hu
    have ih := eqf_run d w hx hy F q' hn.2 hq'
    simp only [Op.eqFields, ne_eq, hn1, not_false_eq_true, if_true, Sem.run_bind, p1, p2, Result.andThen_ok, p3, Sem.run_ite, ih, Sem.run_pure]
    cases hmn : (m == n) <;> simp [hmn]

theorem bink_gives {T : List (TyE P)} {op : BinOp} {xt : Nat} {a b : V} {x y : Value} {K : V → Option A} {r : A} (ha : VR ρ a x) (hb : VR ρ b y)
    (h : bink T op xt a b K = some r) (ox oy : Operand) : Gives P ρ (do eqGuard op xt ox oy x y; Go.binOp op xt x y) K r := by
  unfold bink at h
  cases hsh : isShift op with
  | true =>
    simp only [hsh, cond_true] at h
    split at h <;> try (cases h; done)
    rename_i n neg hc
    cases neg with
    | true => simp at h
    | false =>
      simp only [cond_false] at h
      have hyb : ∃ k', y = .int k' n ∧ ¬ n < 0 := by
        cases hb <;> simp [cnt] at hc
        · obtain ⟨rfl, h2⟩ := hc; exact ⟨_, rfl, by omega⟩
        · subst hc; rename_i q; have := Rng.ubd q; exact ⟨_, rfl, by omega⟩
        · subst hc; rename_i q; have := Rng.bbd q; exact ⟨_, rfl, by omega⟩
      obtain ⟨k', rfl, hn0⟩ := hyb
      have hg : ∀ w, (eqGuard op xt ox oy x (.int k' n)).run P w = .ok () w := fun w => by
        cases op <;> simp [isShift] at hsh <;> simp [eqGuard]
      intro w
      simp only [Sem.run_bind, hg, Result.andThen_ok]
      cases ha <;> simp only at h <;> first
        | (cases h; done)
        | exact shft_gives (fun z => VR.i64 z) h xt hn0 w
        | exact shft_gives (fun z => VR.u64 z) h xt hn0 w
        | exact shft_gives (fun z => VR.u8 z) h xt hn0 w
  | false =>
    simp only [hsh, cond_false] at h
    intro w
    split at h
    · cases ha; cases hb
      have hg : ∀ m n, (eqGuard op xt ox oy (.int .i64 m) (.int .i64 n)).run P w = .ok () w := fun m n => by simp only [eqGuard]; split <;> rfl
      simp only [Sem.run_bind, hg, Result.andThen_ok]
      exact arith_gives (fun z => VR.i64 z) h xt hsh w
    · cases ha; cases hb
      have hg : ∀ m n, (eqGuard op xt ox oy (.int .u64 m) (.int .u64 n)).run P w = .ok () w := fun m n => by simp only [eqGuard]; split <;> rfl
      simp only [Sem.run_bind, hg, Result.andThen_ok]
      exact arith_gives (fun z => VR.u64 z) h xt hsh w
    · cases ha; cases hb
      have hg : ∀ m n, (eqGuard op xt ox oy (.int .u8 m) (.int .u8 n)).run P w = .ok () w := fun m n => by simp only [eqGuard]; split <;> rfl
      simp only [Sem.run_bind, hg, Result.andThen_ok]
      exact arith_gives (fun z => VR.u8 z) h xt hsh w
    · cases ha; cases hb
      split at h <;> try (cases h; done)
      rename_i e he
      have hid := tyf_id he
      split at h <;> try (cases h; done)
      · rename_i hk
        have hu := TyE.bool hk
        rw [hid] at hu
        refine ⟨_, _, ?_, .bool _, h⟩
        simp [eqGuard, Go.binOp, Op.equal, Op.maxDepth, run_equalIn_bool' w _ _ _ _ hu]
      · rename_i hk
        have hu := TyE.bool hk
        rw [hid] at hu
        refine ⟨_, _, ?_, .bool _, h⟩
        simp [eqGuard, Go.binOp, Op.equal, Op.maxDepth, run_equalIn_bool' w _ _ _ _ hu]
    · cases ha with
      | agg ha => cases hb with
        | agg hb =>
          split at h <;> try (cases h; done)
          rename_i e he
          have hid := tyf_id he
          cases hcmp : e.cmp with
          | false => simp [hcmp] at h
          | true =>
            simp only [hcmp, cond_true] at h
            split at h <;> try (cases h; done)
            rename_i fs hk
            split at h <;> try (cases h; done)
            rename_i p hp
            have hc := e.hc
            rw [hcmp] at hc
            simp only [Bool.true_and, Bool.or_eq_false_iff, Bool.not_eq_false'] at hc
            obtain ⟨⟨c1, c2⟩, c3⟩ := hc
            obtain ⟨F, hu, hfs⟩ := e.fields hk
            have hF : P.fieldsOf e.id = F := by simp [Program.fieldsOf, hu]
            rw [hid] at hu c1 c2 c3 hF
            rw [hF] at c3
            have hrun := eqf_run (P := P) (T := T) 9998 w ha hb F.toList p c3 (hfs ▸ hp)
            have hst := fun m n => run_equalIn_struct (P := P) w 9999 xt m n (by rw [hF]; exact hu) c2
            rw [hF] at hst
            have hg : ∀ op' m n, (eqGuard op' xt ox oy (.agg m) (.agg n)).run P w = .ok () w := fun op' m n => run_eqGuard_agg w op' xt ox oy m n c1
            simp only [Sem.run_bind, hg, Result.andThen_ok]
            split at h <;> try (cases h; done)
            · exact ⟨_, _, by rw [run_eql_struct, hst, hrun]; rfl, .bool _, h⟩
            · exact ⟨_, _, by rw [run_neq_struct, hst, hrun]; rfl, .bool _, h⟩
    · cases h

theorem unv_gives {op : UnOp} {v u : V} {x : Value} (h : unv op v = some u) (hv : VR ρ v x) (w : World) : ∃ y, (Op.unary op x).run P w = .ok y w ∧ VR ρ u y := by
  unfold unv at h
  split at h <;> cases h <;> cases hv
  · exact ⟨_, by simp [Op.unary, Op.intArith]; rfl, .i64 (.w .i64 _)⟩
  · exact ⟨_, by simp [Op.unary, Op.intArith]; rfl, .u64 (.w .u64 _)⟩
  · exact ⟨_, rfl, .i64 (.w .i64 _)⟩
  · exact ⟨_, rfl, .u64 (.w .u64 _)⟩
  · exact ⟨_, by simp [Op.unary], .bool _⟩

theorem cnv_gives {e : TyE P} {v u : V} {x : Value} (h : cnv e.kd v = some u) (hv : VR ρ v x) {src : TypeDesc} {st : Nat} (hs : P.underlying st = some src) (w : World) :
    ∃ y, (Go.convert st e.id x).run P w = .ok y w ∧ VR ρ u y := by
  unfold cnv at h
  split at h <;> cases h <;> cases hv <;> rename_i hk <;> have hu := TyE.int hk <;>
    simp only [Go.convert, Sem.run_bind, run_underlying hs w, run_underlying hu w, Result.andThen_ok, Conv.intToInt, Sem.run_pure]
  all_goals first
    | exact ⟨_, rfl, .i64 (.w .i64 _)⟩
    | exact ⟨_, rfl, .u64 (.w .u64 _)⟩
    | exact ⟨_, rfl, .u8 (.w .u8 _)⟩
    | (refine ⟨_, rfl, ?_⟩; rename_i z _ _ _; rw [wrap_inB z.ok]; constructor)
    | (refine ⟨_, rfl, ?_⟩; rw [wrap_inB (Rng.ok _)]; constructor)
end

end Go.Proofs.YtcfflflcbacapaaGreat.Ev
