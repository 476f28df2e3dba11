/-
  A small evaluator for the program's code: what an operation gives, and that it gives so in the model.
-/
import Derived.Test.YtcfflflcbacapaaGreatEv0
import Derived.Laws.CopyRow
namespace Go.Proofs.YtcfflflcbacapaaGreat.Ev
open Go Go.RowKit
set_option linter.unusedSimpArgs false
set_option linter.unusedVariables false

/-! ### types -/
inductive Kd where
  | struct (fs : List (Nat × Nat × Nat))
  | array (n e es : Nat)
  | slice (e es : Nat)
  | int (k : IntKind)
  | bool | str
  | ptr (e : Nat)
  | func | other

def kdOf (P : Program) (t : TypeId) : Kd :=
  match P.underlying t with
  | some (.struct fs) => .struct (fs.toList.map fun f => (f.offset, f.type, P.cellsOf f.type))
  | some (.array n e) => .array n e (P.cellsOf e)
  | some (.slice e) => .slice e (P.cellsOf e)
  | some (.int k) => .int k
  | some .bool => .bool
  | some .string => .str
  | some (.pointer e) => .ptr e
  | some (.func _ _ _) => .func
  | _ => .other

def V.valD : V → Value
  | .bool b => .bool b
  | .i64 x => .int .i64 x.val
  | .u64 x => .int .u64 x.val
  | .u8 x => .int .u8 x.val
  | .str s => .string s
  | .nilp => .pointer none
  | .nils => .slice none 0 0
  | .nilf => .nilFunc
  | _ => undef
def V.plain : V → Bool
  | .bool _ | .i64 _ | .u64 _ | .u8 _ | .str _ | .nilp | .nils | .nilf => true
  | _ => false
theorem VR.valD {ρ : Nat → Option Nat} {v : V} (h : v.plain = true) : VR ρ v v.valD := by
  cases v <;> simp [V.plain] at h <;> simp only [V.valD] <;> constructor
theorem VRs.valD {ρ : Nat → Option Nat} : ∀ {vs : List V}, vs.all V.plain = true → VRs ρ vs (vs.map V.valD)
  | [], _ => .nil
  | v :: vs, h => by simp at h; exact .cons (.valD h.1) (VRs.valD (by simpa using h.2))

structure TyE (P : Program) where
  id : Nat
  size : Nat
  kd : Kd
  zero : List V
  cmp : Bool
  hk : kdOf P id = kd
  hs : (P.info? id).map (·.size) = some size
  hz : ((P.info? id).bind (·.zero)).map (·.cells.toList) = some (zero.map V.valD)
  hp : zero.all V.plain = true
  hf : (match P.underlying id with
    | some (.struct fs) => fs.toList.all fun f => (P.info? f.type).isSome
    | some (.array _ e) => (P.info? e).isSome
    | _ => true) = true
  hc : (cmp && (P.eqGuardType P.depth id || P.stoodInHeld id || !((P.fieldsOf id).toList.all fun f => f.name != "_"))) = false

def tyf {P : Program} : List (TyE P) → Nat → Option (TyE P)
  | [], _ => none
  | e :: t, i => bif Nat.beq e.id i then some e else tyf t i

theorem tyf_id {P : Program} {T : List (TyE P)} {i : Nat} {e : TyE P} (h : tyf T i = some e) : e.id = i := by
  induction T with
  | nil => simp [tyf] at h
  | cons x T ih =>
    simp only [tyf] at h
    cases hb : Nat.beq x.id i with
    | true => simp [hb] at h; subst h; simpa using hb
    | false => simp [hb] at h; exact ih h

def isAggK : Kd → Option Bool
  | .struct _ | .array _ _ _ => some true
  | .other => none
  | _ => some false

section
variable {P : Program}
theorem TyE.info (e : TyE P) : ∃ i, P.info? e.id = some i ∧ i.size = e.size ∧ ∃ z, i.zero = some z ∧ z.cells.toList = e.zero.map V.valD := by
  have hs := e.hs
  have hz := e.hz
  cases hi : P.info? e.id with
  | none => simp [hi] at hs
  | some i =>
    simp [hi] at hs hz
    obtain ⟨z, h1, h2⟩ := hz
    exact ⟨i, rfl, hs, z, h1, h2⟩
theorem TyE.run_size (e : TyE P) (w : World) : (sizeOf e.id).run P w = .ok e.size w := by
  obtain ⟨i, hi, hs, _⟩ := e.info
  simp [sizeOf, typeInfo, hi, hs]
theorem TyE.run_zero (e : TyE P) (w : World) : ∃ z, (zeroValue e.id).run P w = .ok z w ∧ z.cells.toList = e.zero.map V.valD := by
  obtain ⟨i, hi, _, z, hz, hc⟩ := e.info
  exact ⟨z, by simp [zeroValue, typeInfo, hi, hz], hc⟩
theorem TyE.run_agg (e : TyE P) {b : Bool} (h : isAggK e.kd = some b) (w : World) : (isAgg e.id).run P w = .ok b w := by
  have hk := e.hk
  unfold kdOf at hk
  unfold isAgg
  cases hu : P.underlying e.id with
  | none => rw [hu] at hk; simp only at hk; rw [← hk] at h; simp [isAggK] at h
  | some d =>
    rw [hu] at hk
    simp only [Sem.run_bind, run_underlying hu w, Result.andThen_ok]
    cases d <;> simp only at hk <;> rw [← hk] at h <;> simp [isAggK] at h <;> subst h <;> rfl
theorem run_cells {t n : Nat} (h : P.cellsOf t = n) (h0 : n ≠ 0) (w : World) : (sizeOf t).run P w = .ok n w := by
  unfold Program.cellsOf at h
  cases hi : P.info? t with
  | none => simp [hi] at h; exact absurd h.symm h0
  | some i => simp [hi] at h; simp [sizeOf, typeInfo, hi, h]
theorem TyE.fields (e : TyE P) {fs : List (Nat × Nat × Nat)} (h : e.kd = .struct fs) :
    ∃ F : Array Field, P.underlying e.id = some (.struct F) ∧ fs = F.toList.map fun f => (f.offset, f.type, P.cellsOf f.type) := by
  have hk := e.hk
  rw [h] at hk
  unfold kdOf at hk
  cases hu : P.underlying e.id with
  | none => rw [hu] at hk; simp at hk
  | some d =>
    rw [hu] at hk
    cases d <;> simp at hk
    exact ⟨_, rfl, hk.symm⟩
end

/-! ### lists -/
def nth {α : Type} : List α → Nat → Option α
  | [], _ => none
  | a :: _, 0 => some a
  | _ :: t, n + 1 => nth t n
theorem nth_eq {α : Type} : ∀ (l : List α) (n : Nat), nth l n = l[n]?
  | [], n => by simp [nth]
  | a :: t, 0 => by simp [nth]
  | a :: t, n + 1 => by simp [nth, nth_eq t n]

/-! ### operands -/
def cst : Value → Option V
  | .bool b => some (.bool b)
  | .int .i64 n => match h : inB .i64 n with
    | true => some (.i64 ⟨n, h⟩)
    | false => none
  | .int .u64 n => match h : inB .u64 n with
    | true => some (.u64 ⟨n, h⟩)
    | false => none
  | .int .u8 n => match h : inB .u8 n with
    | true => some (.u8 ⟨n, h⟩)
    | false => none
  | .string s => some (.str s)
  | .pointer none => some .nilp
  | .slice none 0 0 => some .nils
  | .nilFunc => some .nilf
  | _ => none
theorem cst_VR {ρ : Nat → Option Nat} {x : Value} {v : V} (h : cst x = some v) : VR ρ v x := by
  unfold cst at h
  split at h
  · cases h; constructor
  · split at h <;> cases h; exact .i64 ⟨_, _⟩
  · split at h <;> cases h; exact .u64 ⟨_, _⟩
  · split at h <;> cases h; exact .u8 ⟨_, _⟩
  all_goals (cases h; try constructor)

def St.ev (s : St) : Operand → Option V
  | .tmp t => lk s.tm t
  | .const v => cst v
  | .global g => some (.glob g)
  | .func f => some (.fn f [])
theorem Rel.ev {w0 : World} {ρ : Nat → Option Nat} {s : St} {a : Act} {w : World} (h : Rel w0 ρ s a w) {x : Operand} {v : V} (hv : s.ev x = some v) : VR ρ v (a.eval x) := by
  cases x with
  | tmp t =>
    obtain ⟨y, hy, hr⟩ := h.tm t v hv
    have : a.eval (.tmp t) = y := by simp [Act.eval, hy]
    rw [this]; exact hr
  | const c => exact cst_VR hv
  | global g => simp [St.ev] at hv; subst hv; exact .glob g
  | func f => simp [St.ev] at hv; subst hv; exact .fn (xs := []) .nil

def St.evs (s : St) : List Operand → Option (List V)
  | [] => some []
  | x :: xs => match s.ev x, s.evs xs with
    | some v, some vs => some (v :: vs)
    | _, _ => none
theorem Rel.evs {w0 : World} {ρ : Nat → Option Nat} {s : St} {a : Act} {w : World} (h : Rel w0 ρ s a w) : ∀ {xs : List Operand} {vs : List V}, s.evs xs = some vs → VRs ρ vs (xs.map a.eval)
  | [], vs, hv => by simp [St.evs] at hv; subst hv; exact .nil
  | x :: xs, vs, hv => by
    simp only [St.evs] at hv
    split at hv
    · rename_i u us hu hus
      cases hv
      exact .cons (h.ev hu) (h.evs hus)
    · cases hv

/-! ### memory -/
def Mem.load (m : Mem) (b o n : Nat) : Option (List V) :=
  match lk m.blks b with
  | some cs => bif Nat.ble (o + n) cs.length then some ((cs.drop o).take n) else none
  | none => none
def Mem.load1 (m : Mem) (b o : Nat) : Option V :=
  match lk m.blks b with
  | some cs => nth cs o
  | none => none
def Mem.store (m : Mem) (b o : Nat) (vs : List V) : Option Mem :=
  match lk m.blks b with
  | some cs => bif Nat.ble m.lo b && (Nat.ble (o + vs.length) cs.length && vs.all V.atom) then
      some ⟨(b, cs.take o ++ (vs ++ cs.drop (o + vs.length))) :: m.blks, m.nxt, m.lo⟩ else none
  | none => none

section
variable {P : Program} {w0 w : World} {ρ : Nat → Option Nat} {m : Mem}
theorem addr_add (r o n : Nat) : (⟨r, o, none⟩ : Addr).add n = ⟨r, o + n, none⟩ := by
  unfold Addr.add; split <;> simp_all
theorem MRel.load1 (h : MRel w0 ρ m w) {b o : Nat} {v : V} (hl : m.load1 b o = some v) : ∃ r x, ρ b = some r ∧ w.cell? ⟨r, o, none⟩ = some x ∧ VR ρ v x := by
  unfold Mem.load1 at hl
  split at hl
  · rename_i cs hc
    obtain ⟨r, xs, t, hr, hx, hv⟩ := h.blk b cs hc
    rw [nth_eq] at hl
    obtain ⟨x, hx', hv'⟩ := hv.get o hl
    exact ⟨r, x, hr, by rw [cell_of_row w r o _ t _ hx]; simpa using hx', hv'⟩
  · cases hl
theorem MRel.load (h : MRel w0 ρ m w) {b o n : Nat} {vs : List V} (hl : m.load b o n = some vs) :
    ∃ r ys, ρ b = some r ∧ (loadCells ⟨r, o, none⟩ n).run P w = .ok ys.toArray w ∧ VRs ρ vs ys := by
  unfold Mem.load at hl
  split at hl
  · rename_i cs hc
    obtain ⟨r, xs, t, hr, hx, hv⟩ := h.blk b cs hc
    cases hle : Nat.ble (o + n) cs.length with
    | false => simp [hle] at hl
    | true =>
      simp [hle] at hl; subst hl
      have hle' : o + n ≤ cs.length := Nat.le_of_ble_eq_true hle
      have hlen := hv.length
      refine ⟨r, (xs.drop o).take n, hr, ?_, (hv.drop o).take n⟩
      have hn : ((xs.drop o).take n).length = n := by simp; omega
      have := run_loadCells_list (P := P) w ⟨r, o, none⟩ ((xs.drop o).take n) (fun j v hj => by
        rw [addr_add, cell_of_row w r _ _ t _ hx]
        rw [List.getElem?_take] at hj
        split at hj
        · simpa using hj
        · cases hj)
      rwa [hn] at this
  · cases hl

theorem run_storeCells (r o : Nat) (t : TypeId) : ∀ (vs : List Value) (i : Nat) (w : World) (xs : List Value), w.heap[r]? = some (.cells xs.toArray t (0, 0)) →
    o + i + vs.length ≤ xs.length → (∀ v ∈ vs, v.oneCell' = true) →
    (storeCells ⟨r, o, none⟩ vs i).run P w = .ok () (w.setRow r (xs.take (o + i) ++ (vs ++ xs.drop (o + i + vs.length))).toArray)
  | [], i, w, xs, hg, hle, hat => by
    simp only [storeCells, Sem.run_pure, List.nil_append, List.length_nil, Nat.add_zero, List.take_append_drop]
    rw [setRow_self w r xs.toArray t _ hg]
  | v :: vs, i, w, xs, hg, hle, hat => by
    simp only [List.length_cons] at hle
    have hv := hat v (by simp)
    have hcell : w.cell? ⟨r, o + i, none⟩ = some xs[o + i] := by
      rw [cell_of_row w r _ _ t _ hg]; simp
    have hfz : w.frozen? ⟨r, o + i, none⟩ = false := frozen_of_row w r _ _ t hg
    have hset := setCell_eq_setRow w r (o + i) xs.toArray t (0, 0) v hg
    have hg' : (w.setRow r (xs.set (o + i) v).toArray).heap[r]? = some (.cells (xs.set (o + i) v).toArray t (0, 0)) := setRow_heap w r _ _ t _ hg
    have ih := run_storeCells r o t vs (i + 1) (w.setRow r (xs.set (o + i) v).toArray) (xs.set (o + i) v) hg' (by simp; omega) (fun u hu => hat u (by simp [hu]))
    simp only [storeCells, Sem.run_bind, addr_add]
    rw [run_store P w _ v _ hv]
    simp only [hcell, hfz, Bool.false_eq_true, if_false, Result.andThen_ok]
    rw [hset]
    simp only [List.setIfInBounds_toArray]
    rw [ih, setRow_setRow]
    congr 3
    apply List.ext_getElem?
    intro j
    simp only [List.getElem?_append, List.getElem?_take, List.getElem?_drop, List.length_take, List.length_set, List.length_cons, List.getElem?_set, List.getElem?_cons]
    have h1 : min (o + (i + 1)) xs.length = o + i + 1 := by omega
    have h2 : min (o + i) xs.length = o + i := by omega
    rw [h1, h2]
    by_cases hj : j < o + i
    · simp [hj, show j < o + i + 1 by omega, show ¬ o + i = j by omega, show j < o + (i+1) by omega]
    · by_cases hj' : j = o + i
      · subst hj'; simp [show o + i < o + (i+1) by omega]; omega
      · have e : j - (o + i) = (j - (o + i + 1)) + 1 := by omega
        simp only [show ¬ j < o + i by omega, show ¬ j < o + i + 1 by omega, if_false, e]
        simp only [Nat.add_sub_cancel, List.length_cons, Nat.add_lt_add_iff_right, show ¬ (j - (o + i + 1) + 1 = 0) by omega, if_false]
        split
        · rfl
        · rw [if_neg (by omega)]; congr 1; omega

theorem MRel.store' (h : MRel w0 ρ m w) {b o : Nat} {vs : List V} {ys : List Value} {m' : Mem} (hs : m.store b o vs = some m') (hv : VRs ρ vs ys) :
    ∃ r w', ρ b = some r ∧ (storeCells ⟨r, o, none⟩ ys).run P w = .ok () w' ∧ MRel w0 ρ m' w' ∧ (∀ k, k ≠ r → w'.heap[k]? = w.heap[k]?) ∧ w'.heap.size = w.heap.size := by
  unfold Mem.store at hs
  split at hs
  · rename_i cs hc
    obtain ⟨r, xs, t, hr, hx, hxv⟩ := h.blk b cs hc
    cases hb : (Nat.ble m.lo b && (Nat.ble (o + vs.length) cs.length && vs.all V.atom)) with
    | false => simp [hb] at hs
    | true =>
      simp only [hb, cond_true, Option.some.injEq] at hs; subst hs
      simp only [Bool.and_eq_true] at hb
      obtain ⟨hlo, hle, hat⟩ := hb
      have hlo' := Nat.le_of_ble_eq_true hlo
      have hle' := Nat.le_of_ble_eq_true hle
      have l1 := hv.length
      have l2 := hxv.length
      have hone : ∀ y ∈ ys, y.oneCell' = true := by
        clear hx hle hle' l1
        induction vs generalizing ys with
        | nil => cases hv; simp
        | cons v vs ih =>
          cases hv with
          | cons hv ht =>
            simp at hat
            intro y hy
            simp at hy
            rcases hy with rfl | hy
            · exact hv.one hat.1
            · exact ih ht (by simpa using hat.2) y hy
      have hrun := run_storeCells (P := P) r o t ys 0 w xs hx (by omega) hone
      simp only [Nat.add_zero] at hrun
      refine ⟨r, _, hr, hrun, ⟨?_, h.inj, h.fresh, fun b' r' hr' => by simpa using h.dom b' r' hr', h.own, ?_, h.lon⟩, fun k hk => setRow_other _ _ _ _ hk, by simp⟩
      · intro b' cs' hc'
        simp only [lk_cons] at hc'
        by_cases hbb : b = b'
        · subst hbb
          simp at hc'; subst hc'
          refine ⟨r, _, t, hr, setRow_heap w r _ _ t _ hx, (hxv.take o).append (hv.append ?_)⟩
          rw [l1]; exact hxv.drop _
        · rw [if_neg hbb] at hc'
          obtain ⟨r', xs', t', hr', hx', hv'⟩ := h.blk b' cs' hc'
          refine ⟨r', xs', t', hr', ?_, hv'⟩
          rw [setRow_other w r r' _ (fun e => hbb (h.inj b b' r hr (e ▸ hr')))]
          exact hx'
      · have hown := h.own b r hlo' hr
        refine h.bel.trans ⟨rfl, rfl, rfl, by simp, fun k hk => setRow_other _ _ _ _ (by omega)⟩
  · cases hs
theorem MRel.store (h : MRel w0 ρ m w) {b o : Nat} {vs : List V} {ys : List Value} {m' : Mem} (hs : m.store b o vs = some m') (hv : VRs ρ vs ys) :
    ∃ r w', ρ b = some r ∧ (storeCells ⟨r, o, none⟩ ys).run P w = .ok () w' ∧ MRel w0 ρ m' w' :=
  let ⟨r, w', h1, h2, h3, _⟩ := h.store' (P := P) hs hv
  ⟨r, w', h1, h2, h3⟩
end

end Go.Proofs.YtcfflflcbacapaaGreat.Ev
