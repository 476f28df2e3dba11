/-
  A small evaluator for the program's code: one operation of a region, and its soundness.
-/
import Derived.Test.YtcfflflcbacapaaGreatEv2
namespace Go.Proofs.YtcfflflcbacapaaGreat.Ev
open Go Go.RowKit
set_option linter.unusedSimpArgs false
set_option linter.unusedVariables false

/-- A call: what the continuation gets. -/
abbrev CallK (A : Type) := Nat → List V → Mem → (V → Mem → Option A) → Option A

def St.evps (s : St) : List (Nat × Operand) → Option (List (Nat × V))
  | [] => some []
  | (i, x) :: xs => match s.ev x, s.evps xs with
    | some v, some vs => some ((i, v) :: vs)
    | _, _ => none

/-- A composite's parts, laid over its zero cells; pl tells each part's place and size. -/
def fillV (pl : Nat → Option (Nat × Nat)) : List V → List (Nat × V) → Option (List V)
  | cs, [] => some cs
  | cs, (i, v) :: ps =>
    match pl i with
    | some (o, n) => bif Nat.beq v.cells.length n && Nat.ble (o + n) cs.length then fillV pl (cs.take o ++ (v.cells ++ cs.drop (o + n))) ps else none
    | none => none

def placeOf : Kd → Option (Nat → Option (Nat × Nat))
  | .struct fs => some fun i => match nth fs i with | some (o, _, n) => some (o, n) | none => none
  | .array _ _ es => some fun i => some (i * es, es)
  | _ => none

def mn (a b : I64) : I64 := bif decide (b.val < a.val) then b else a
def mx (a b : I64) : I64 := bif decide (b.val > a.val) then b else a
def mins : I64 → List V → Option I64
  | a, [] => some a
  | a, .i64 b :: t => mins (mn a b) t
  | _, _ => none
def maxs : I64 → List V → Option I64
  | a, [] => some a
  | a, .i64 b :: t => maxs (mx a b) t
  | _, _ => none

/-- A string's byte. -/
def strAt (b : ByteArray) (n : Nat) : U8 := .w .u8 ((b.data.getD n 0).toNat : Int)

/-- A part of an aggregate. -/
def partV {P : Program} (T : List (TyE P)) (t : Nat) (cs : List V) (o : Nat) : Option V :=
  match tyf T t with
  | some e => match isAggK e.kd with
    | some true => bif Nat.ble (o + e.size) cs.length then some (.agg ((cs.drop o).take e.size)) else none
    | some false => nth cs o
    | none => none
  | none => none

section
variable {P : Program} {A : Type}

def opk (T : List (TyE P)) (call : CallK A) (s : St) (o : Oper) (K : V → Mem → Option A) : Option A :=
  match o.op with
  | .move x => match s.ev x with
    | some v => K v s.mm
    | none => none
  | .assign x => match s.ev x with
    | some v => K v s.mm
    | none => none
  | .pick c a b => match s.ev c with
    | some (.bool t) => bif t then (match s.ev a with
        | some v => K v s.mm
        | none => none) else (match s.ev b with
        | some v => K v s.mm
        | none => none)
    | _ => none
  | .alloc t => match tyf T t with
    | some e => K (.ptr s.mm.nxt 0) (s.mm.new e.zero)
    | none => none
  | .box _ x => match s.ev x with
    | some v => K (.ptr s.mm.nxt 0) (s.mm.new v.cells)
    | none => none
  | .build t ps => match tyf T t, s.evps ps.toList with
    | some e, some vs => match placeOf e.kd with
      | some pl => match fillV pl e.zero vs with
        | some cs => K (.agg cs) s.mm
        | none => none
      | none => none
    | _, _ => none
  | .load t x => match tyf T t, s.ev x with
    | some e, some (.ptr b off) => match isAggK e.kd with
      | some true => match s.mm.load b off e.size with
        | some cs => K (.agg cs) s.mm
        | none => none
      | some false => match s.mm.load1 b off with
        | some v => K v s.mm
        | none => none
      | none => none
    | _, _ => none
  | .store t x y => match tyf T t, s.ev x, s.ev y with
    | some e, some (.ptr b off), some v => bif Nat.beq v.cells.length e.size then match s.mm.store b off v.cells with
        | some m => K (.tup []) m
        | none => none
      else none
    | _, _, _ => none
  | .binOp op xt x y _ => match s.ev x, s.ev y with
    | some a, some b => bink T op xt a b fun v => K v s.mm
    | _, _ => none
  | .unOp op _ x => match s.ev x with
    | some v => match unv op v with
      | some u => K u s.mm
      | none => none
    | none => none
  | .convert st dt x => match tyf T st, tyf T dt, s.ev x with
    | some es, some e, some v => match isAggK es.kd, cnv e.kd v with
      | some _, some u => K u s.mm
      | _, _ => none
    | _, _, _ => none
  | .extract x i => match s.ev x with
    | some (.tup vs) => match nth vs i with
      | some v => K v s.mm
      | none => none
    | _ => none
  | .field t x i => match tyf T t, s.ev x with
    | some e, some (.agg cs) => match e.kd with
      | .struct fs => match nth fs i with
        | some (off, ft, _) => match partV T ft cs off with
          | some v => K v s.mm
          | none => none
        | none => none
      | _ => none
    | _, _ => none
  | .fieldAddr t x i => match tyf T t, s.ev x with
    | some e, some (.ptr b off) => match e.kd with
      | .struct fs => match nth fs i with
        | some (fo, _, n) => bif Nat.beq n 0 then none else K (.ptr b (off + fo)) s.mm
        | none => none
      | _ => none
    | _, _ => none
  | .index t x i => match tyf T t, s.ev x, s.ev i with
    | some e, some (.agg cs), some (.i64 j) => match e.kd with
      | .array n et es => bif decide (0 ≤ j.val) && decide (j.val < (n : Int)) then match tyf T et with
          | some ee => bif Nat.beq ee.size es then match partV T et cs (j.val.toNat * es) with
              | some v => K v s.mm
              | none => none
            else none
          | none => none
        else none
      | _ => none
    | some e, some (.str b), some (.u8 j) => match e.kd with
      | .str => bif Nat.blt j.val.toNat b.size then K (.u8 (strAt b j.val.toNat)) s.mm else none
      | _ => none
    | _, _, _ => none
  | .indexAddr t x i => match tyf T t, s.ev x, s.ev i with
    | some e, some v, some (.i64 j) => match e.kd, v with
      | .slice et es, .slc b off l _ => bif decide (0 ≤ j.val) && decide (j.val < (l : Int)) && !Nat.beq es 0 then K (.ptr b (off + j.val.toNat * es)) s.mm else none
      | .array n et es, .ptr b off => bif decide (0 ≤ j.val) && decide (j.val < (n : Int)) && !Nat.beq es 0 then K (.ptr b (off + j.val.toNat * es)) s.mm else none
      | _, _ => none
    | _, _, _ => none
  | .makeFunc (.func f) first caps => bif Nat.beq first.size 0 then match s.evs caps.toList with
      | some vs => K (.fn f vs) s.mm
      | none => none
    else none
  | .nilCheck x => match s.ev x with
    | some (.ptr b off) => K (.ptr b off) s.mm
    | some (.fn f cs) => K (.fn f cs) s.mm
    | _ => none
  | .buildSlice t n ps => match tyf T t, s.evps ps.toList with
    | some e, some vs => match e.kd with
      | .slice et es => match tyf T et with
        | some ee => bif Nat.beq ee.size es && Nat.beq ee.zero.length es && Nat.ble (n * es) 1000 && !Nat.beq (n * es) 0 then
            match fillV (fun i => some (i * es, es)) ((List.range (n * es)).map fun i => ee.zero.getD (i % es) .nils) vs with
            | some cs => K (.slc s.mm.nxt 0 n n) (s.mm.new cs)
            | none => none
          else none
        | none => none
      | _ => none
    | _, _ => none
  | .call c => match c.callee with
    | .value f => match s.ev f, s.evs c.args.toList with
      | some (.fn g caps), some vs => call g (vs ++ caps) s.mm K
      | _, _ => none
    | .builtin .min => match s.evs c.args.toList with
      | some (.i64 a :: vs) => match mins a vs with
        | some r => K (.i64 r) s.mm
        | none => none
      | _ => none
    | .builtin .max => match s.evs c.args.toList with
      | some (.i64 a :: vs) => match maxs a vs with
        | some r => K (.i64 r) s.mm
        | none => none
      | _ => none
    | .builtin .len => match c.argTypes.toList, s.evs c.args.toList with
      | [t], some [.slc _ _ l _] => match tyf T t with
        | some e => match e.kd with
          | .slice _ _ => match h : inB .i64 (l : Int) with
            | true => K (.i64 ⟨(l : Int), h⟩) s.mm
            | false => none
          | _ => none
        | none => none
      | _, _ => none
    | _ => none
  | _ => none

/-- An operation that leaves memory alone and calls no function. -/
def quiet : Op → Bool
  | .alloc _ | .box _ _ | .store _ _ _ | .buildSlice _ _ _ => false
  | .call c => match c.callee with
    | .value _ => false
    | _ => true
  | _ => true

/-! ### soundness -/
/-- What the operation's run leads to, and what it must lead to. -/
def CallOk (P : Program) (w0 : World) (call : CallK A) : Prop :=
  ∀ (f : Nat) (vs : List V) (m : Mem) (K : V → Mem → Option A) (r : A), call f vs m K = some r →
    ∀ (ρ : Nat → Option Nat) (xs : List Value) (w : World), VRs ρ vs xs → MRel w0 ρ m w →
      ∀ (o : Oper) (a : Act) (next : Act → World → Prop) (Q : Exit → Act → World → Prop),
        (∀ v m' ρ' x w', Ext ρ ρ' → VR ρ' v x → MRel w0 ρ' m' w' → K v m' = some r → next (a.put o.dst x) w') →
        o.upon P a next Q ((callFunc f xs.toArray).run P w)

variable {w0 : World} {ρ : Nat → Option Nat} {s : St} {a : Act} {w : World}

theorem Rel.evps (h : Rel w0 ρ s a w) : ∀ {ps : List (Nat × Operand)} {vs : List (Nat × V)}, s.evps ps = some vs →
    (ps.map (·.1)) = vs.map (·.1) ∧ VRs ρ (vs.map (·.2)) (ps.map fun p => a.eval p.2)
  | [], vs, hv => by simp [St.evps] at hv; subst hv; exact ⟨rfl, .nil⟩
  | (i, x) :: xs, vs, hv => by
    simp only [St.evps] at hv
    split at hv
    · rename_i u us hu hus
      cases hv
      obtain ⟨h1, h2⟩ := h.evps hus
      exact ⟨by simp [h1], .cons (h.ev hu) h2⟩
    · cases hv

theorem foldl_set (c : List Value) : ∀ (off : Nat) (k : Nat) (cs : List Value), off + k + c.length ≤ cs.length →
    ((c.zipIdx k).foldl (fun (acc : Array Value) (p : Value × Nat) => acc.setIfInBounds (off + p.2) p.1) cs.toArray) = (cs.take (off + k) ++ (c ++ cs.drop (off + k + c.length))).toArray := by
  induction c with
  | nil => intro off k cs h; simp
  | cons v c ih =>
    intro off k cs h
    simp only [List.length_cons] at h
    simp only [List.zipIdx_cons, List.foldl_cons, List.setIfInBounds_toArray]
    rw [ih off (k + 1) (cs.set (off + k) v) (by simp; omega)]
    congr 1
    apply List.ext_getElem?
    intro j
    simp only [List.getElem?_append, List.getElem?_take, List.getElem?_drop, List.length_take, List.length_set, List.length_cons, List.getElem?_set, List.getElem?_cons]
    have h1 : min (off + (k + 1)) cs.length = off + k + 1 := by omega
    have h2 : min (off + k) cs.length = off + k := by omega
    rw [h1, h2]
    by_cases hj : j < off + k
    · simp [hj, show j < off + k + 1 by omega, show ¬ off + k = j by omega, show j < off + (k+1) by omega]
    · by_cases hj' : j = off + k
      · subst hj'; simp [show off + k < off + (k+1) by omega]; omega
      · have e : j - (off + k) = (j - (off + k + 1)) + 1 := by omega
        simp only [show ¬ j < off + k by omega, show ¬ j < off + k + 1 by omega, if_false, e]
        simp only [Nat.add_sub_cancel, List.length_cons, Nat.add_lt_add_iff_right, show ¬ (j - (off + k + 1) + 1 = 0) by omega, if_false]
        split
        · rfl
        · rw [if_neg (by omega)]; congr 1; omega

theorem fill_run {pl : Nat → Option (Nat × Nat)} : ∀ (ps : List (Nat × V)) (cs : List V) (cs' : List V) (xs : List Value) (is : List Nat) (ys : List Value), fillV pl cs ps = some cs' → VRs ρ cs xs →
    VRs ρ (ps.map (·.2)) ys → is = ps.map (·.1) → ∃ xs', Instr.fill pl xs.toArray (is.zip ys) = some xs'.toArray ∧ VRs ρ cs' xs'
  | [], cs, cs', xs, is, ys, h, hc, hy, hi => by
    simp [fillV] at h; subst h; simp at hi; subst hi; cases hy
    exact ⟨xs, by simp [Instr.fill], hc⟩
  | (i, v) :: ps, cs, cs', xs, is, ys, h, hc, hy, hi => by
    simp only [List.map_cons] at hy hi
    subst hi
    cases hy with
    | cons hv ht =>
      rename_i y yt
      simp only [fillV] at h
      split at h <;> try (cases h; done)
      rename_i o n hpl
      cases hb : (Nat.beq v.cells.length n && Nat.ble (o + n) cs.length) with
      | false => simp [hb] at h
      | true =>
        simp only [hb, cond_true] at h
        simp only [Bool.and_eq_true] at hb
        have hn : v.cells.length = n := Nat.eq_of_beq_eq_true hb.1
        have hle := Nat.le_of_ble_eq_true hb.2
        have hvc := hv.cells
        have l1 : y.cells.size = n := by have := hvc.length; simpa [hn] using this
        have l2 := hc.length
        have hf := foldl_set y.cells.toList o 0 xs (by simp; omega)
        have hstep : VRs ρ (cs.take o ++ (v.cells ++ cs.drop (o + n))) (xs.take o ++ (y.cells.toList ++ xs.drop (o + n))) :=
          (hc.take o).append (hvc.append (hc.drop _))
        obtain ⟨xs', h1, h2⟩ := fill_run ps _ cs' _ _ yt h hstep ht rfl
        refine ⟨xs', ?_, h2⟩
        simp only [List.zip_cons_cons, Instr.fill, hpl]
        have e : Array.foldl (fun (acc : Array Value) (p : Value × Nat) => acc.setIfInBounds (o + p.2) p.1) xs.toArray y.cells.zipIdx = (xs.take o ++ (y.cells.toList ++ xs.drop (o + n))).toArray := by
          rw [← Array.foldl_toList, Array.toList_zipIdx]
          rw [hf]; simp [l1]
        rw [if_neg (by simp [l1]; omega)]
        rw [show (fun (cs : Array Value) (x : Value × Nat) => match x with | (c, j) => cs.setIfInBounds (o + j) c) = fun (acc : Array Value) (p : Value × Nat) => acc.setIfInBounds (o + p.2) p.1 from rfl, e]
        exact h1

theorem part_run {T : List (TyE P)} {t : Nat} {cs : List V} {xs : List Value} {o : Nat} {v : V} (h : partV T t cs o = some v) (hc : VRs ρ cs xs) (w : World) :
    ∃ x, (part t xs.toArray o).run P w = .ok x w ∧ VR ρ v x := by
  unfold partV at h
  split at h <;> try (cases h; done)
  rename_i e he
  have hid := tyf_id he
  have l2 := hc.length
  split at h <;> try (cases h; done)
  · rename_i hk
    cases hle : Nat.ble (o + e.size) cs.length with
    | false => simp [hle] at h
    | true =>
      simp [hle] at h; subst h
      have hle' := Nat.le_of_ble_eq_true hle
      have h1 := e.run_agg hk w
      have h2 := e.run_size w
      rw [hid] at h1 h2
      refine ⟨_, by simp only [part, Sem.run_bind, h1, h2, Result.andThen_ok, if_true, Sem.run_pure]; rfl, ?_⟩
      have : xs.toArray.extract o (o + e.size) = ((xs.drop o).take e.size).toArray := by simp [List.extract_eq_take_drop]
      rw [this]
      exact .agg ((hc.drop o).take _)
  · rename_i hk
    have h1 := e.run_agg hk w
    rw [hid] at h1
    rw [nth_eq] at h
    obtain ⟨x, hx, hv⟩ := hc.get o h
    exact ⟨x, by simp [part, h1, hx], hv⟩

theorem mins_run {w : World} : ∀ (vs : List V) (xs : List Value) (a r : I64), mins a vs = some r → VRs ρ vs xs →
    (xs.foldlM Builtin.min2 (.int .i64 a.val)).run P w = .ok (.int .i64 r.val) w
  | [], xs, a, r, h, hv => by simp [mins] at h; subst h; cases hv; simp
  | v :: vs, xs, a, r, h, hv => by
    cases hv with
    | cons hv ht =>
      cases hv <;> simp only [mins] at h <;> try (cases h; done)
      rename_i b
      have ih := mins_run (w := w) vs _ _ r h ht
      have e : (mn a b).val = if b.val < a.val then b.val else a.val := by unfold mn; by_cases hb : b.val < a.val <;> simp [hb]
      simp only [List.foldlM_cons, Builtin.min2, pure_bind]
      rw [← e]; exact ih
theorem maxs_run {w : World} : ∀ (vs : List V) (xs : List Value) (a r : I64), maxs a vs = some r → VRs ρ vs xs →
    (xs.foldlM Builtin.max2 (.int .i64 a.val)).run P w = .ok (.int .i64 r.val) w
  | [], xs, a, r, h, hv => by simp [maxs] at h; subst h; cases hv; simp
  | v :: vs, xs, a, r, h, hv => by
    cases hv with
    | cons hv ht =>
      cases hv <;> simp only [maxs] at h <;> try (cases h; done)
      rename_i b
      have ih := maxs_run (w := w) vs _ _ r h ht
      have e : (mx a b).val = if b.val > a.val then b.val else a.val := by unfold mx; by_cases hb : b.val > a.val <;> simp [hb]
      simp only [List.foldlM_cons, Builtin.max2, pure_bind]
      rw [← e]; exact ih

theorem opk_sound {T : List (TyE P)} {call : CallK A} (hcall : CallOk P w0 call) {o : Oper} {K : V → Mem → Option A} {r : A} (hk : opk T call s o K = some r) (h : Rel w0 ρ s a w)
    {next : Act → World → Prop} {Q : Exit → Act → World → Prop}
    (hn : ∀ v m' ρ' x w', Ext ρ ρ' → VR ρ' v x → MRel w0 ρ' m' w' → (quiet o.op = true → ρ' = ρ ∧ w' = w) → K v m' = some r → next (a.put o.dst x) w') :
    o.upon P a next Q ((execOp a.eval o).run P w) := by
  have key : ∀ (S : Sem Value) (v : V) (x : Value), S.run P w = .ok x w → VR ρ v x → K v s.mm = some r →
      o.upon P a next Q ((do let y ← S; pure (Next.value y) : Sem Next).run P w) := fun S v x h1 h2 h3 => by
    simp only [Sem.run_bind, h1, Result.andThen_ok, Sem.run_pure, Oper.upon]
    exact hn v s.mm ρ x w (Ext.refl _) h2 h.mr (fun _ => ⟨rfl, rfl⟩) h3
  unfold opk at hk
  split at hk
  · -- move
    rename_i x ho
    split at hk <;> try (cases hk; done)
    rename_i v hv
    simp only [execOp, ho, Sem.run_pure, Oper.upon]
    exact hn v _ ρ _ w (Ext.refl _) (h.ev hv) h.mr (fun _ => ⟨rfl, rfl⟩) hk
  · -- assign
    rename_i x ho
    split at hk <;> try (cases hk; done)
    rename_i v hv
    simp only [execOp, ho, Sem.run_pure, Oper.upon]
    exact hn v _ ρ _ w (Ext.refl _) (h.ev hv) h.mr (fun _ => ⟨rfl, rfl⟩) hk
  · -- pick
    rename_i c x y ho
    split at hk <;> try (cases hk; done)
    rename_i t hc
    have hcv := h.ev hc
    cases ht : a.eval c <;> rw [ht] at hcv <;> cases hcv
    simp only [execOp, ho, ht, asBool, Sem.run_bind, Sem.run_pure, Result.andThen_ok, Oper.upon]
    cases t with
    | true =>
      simp only [cond_true] at hk
      split at hk <;> try (cases hk; done)
      rename_i v hv
      simp only [if_true]
      exact hn v _ ρ _ w (Ext.refl _) (h.ev hv) h.mr (fun _ => ⟨rfl, rfl⟩) hk
    | false =>
      simp only [cond_false] at hk
      split at hk <;> try (cases hk; done)
      rename_i v hv
      simp only [Bool.false_eq_true, if_false]
      exact hn v _ ρ _ w (Ext.refl _) (h.ev hv) h.mr (fun _ => ⟨rfl, rfl⟩) hk
  · -- alloc
    rename_i t ho
    split at hk <;> try (cases hk; done)
    rename_i e he
    have hid := tyf_id he
    obtain ⟨z, hz, hzc⟩ := e.run_zero w
    rw [hid] at hz
    obtain ⟨ρ', e1, e2, e3⟩ := h.mr.new (VRs.valD e.hp) t
    have hzc' : z.cells = (e.zero.map V.valD).toArray := by rw [← hzc]
    simp only [execOp, ho, Instr.alloc, Sem.run_bind, hz, Result.andThen_ok, newVar, newRow, run_newObj, Sem.run_pure, Oper.upon, hzc']
    exact hn _ _ ρ' _ _ e1 (.ptr e2) e3 (fun hq => by simp [ho, quiet] at hq) hk
  · -- box
    rename_i t x ho
    split at hk <;> try (cases hk; done)
    rename_i v hv
    have hc := (h.ev hv).cells
    obtain ⟨ρ', e1, e2, e3⟩ := h.mr.new hc t
    simp only [execOp, ho, Instr.box, newVar, newRow, Sem.run_bind, run_newObj, Result.andThen_ok, Sem.run_pure, Oper.upon]
    simp only [Array.toArray_toList] at e3
    exact hn _ _ ρ' _ _ e1 (.ptr e2) e3 (fun hq => by simp [ho, quiet] at hq) hk
  · -- build
    rename_i t ps ho
    split at hk <;> try (cases hk; done)
    rename_i e vs he hvs
    have hid := tyf_id he
    split at hk <;> try (cases hk; done)
    rename_i pl hpl
    split at hk <;> try (cases hk; done)
    rename_i cs hcs
    obtain ⟨h1, h2⟩ := h.evps hvs
    obtain ⟨z, hz, hzc⟩ := e.run_zero w
    obtain ⟨xs', h3, h4⟩ := fill_run (ρ := ρ) vs e.zero cs (e.zero.map V.valD) (ps.toList.map (·.1)) _ hcs (VRs.valD e.hp) h2 h1
    have hzip : (ps.toList.map (·.1)).zip (ps.toList.map fun p => a.eval p.2) = (ps.map fun (p : Nat × Operand) => (p.1, a.eval p.2)).toList := by
      rw [Array.toList_map]
      induction ps.toList with
      | nil => rfl
      | cons p t ih => simp [ih]
    rw [hzip, ← hzc] at h3
    simp only [Array.toArray_toList] at h3
    rw [hid] at hz
    have hrun : (Instr.build t (ps.map fun (p : Nat × Operand) => (p.1, a.eval p.2))).run P w = .ok (.agg xs'.toArray) w := by
      apply run_build
      obtain ⟨it, hit, _, z', hz1, hz2⟩ := e.info
      rw [hid] at hit
      have hzz : z' = z := by
        have : (zeroValue t).run P w = .ok z' w := by simp [zeroValue, typeInfo, hit, hz1]
        rw [hz] at this; cases this; rfl
      subst hzz
      have hff := e.hf
      rw [hid] at hff
      unfold Program.built
      cases hkd : e.kd <;> rw [hkd] at hpl <;> simp only [placeOf] at hpl <;> try (cases hpl; done)
      · rename_i fs
        obtain ⟨F, hu, hfs⟩ := e.fields hkd
        rw [hid] at hu
        rw [hu] at hff
        have hm : F.toList.mapM (fun f => (P.info? f.type).map fun i => (f.offset, i.size)) = some (F.toList.map fun f => (f.offset, P.cellsOf f.type)) := by
          simp only at hff
          generalize F.toList = L at hff
          induction L with
          | nil => rfl
          | cons f L ih =>
            simp only [List.all_cons, Bool.and_eq_true] at hff
            obtain ⟨i, hi⟩ := Option.isSome_iff_exists.1 hff.1
            have hc : P.cellsOf f.type = i.size := by simp [Program.cellsOf, hi]
            simp [List.mapM_cons, hi, ih hff.2, hc]
        simp only [hit, hu, hz1, hm]
        have hpl' := Option.some.inj hpl
        have hfun : (fun i => (F.toList.map fun f => (f.offset, P.cellsOf f.type)).toArray[i]?) = pl := by
          rw [← hpl', hfs]
          funext i
          rw [nth_eq]
          simp only [List.getElem?_toArray, List.getElem?_map]
          cases F.toList[i]? <;> rfl
        rw [hfun]; exact h3
      · rename_i n et es
        have hkk := e.hk
        rw [hkd, hid] at hkk
        unfold kdOf at hkk
        cases hd : P.underlying t with
        | none => rw [hd] at hkk; simp at hkk
        | some d =>
          rw [hd] at hkk
          cases d <;> simp at hkk
          rename_i len0 elem0
          obtain ⟨rfl, rfl, rfl⟩ := hkk
          rw [hd] at hff
          simp only at hff
          obtain ⟨i, hi⟩ := Option.isSome_iff_exists.1 hff
          have hc : P.cellsOf elem0 = i.size := by simp [Program.cellsOf, hi]
          simp only [hit, hz1, hi]
          have hpl' := Option.some.inj hpl
          rw [← hc, hpl']; exact h3
    have := key _ _ _ hrun (.agg h4) hk
    simpa only [execOp, ho] using this
  · -- load
    rename_i t x ho
    split at hk <;> try (cases hk; done)
    rename_i e b off he hx
    have hid := tyf_id he
    have hxv := h.ev hx
    cases hxe : a.eval x <;> rw [hxe] at hxv <;> cases hxv
    rename_i r hr
    split at hk <;> try (cases hk; done)
    · rename_i hagg
      split at hk <;> try (cases hk; done)
      rename_i cs hcs
      obtain ⟨r', ys, hr', hl, hv⟩ := h.mr.load (P := P) hcs
      rw [hr] at hr'; cases hr'
      have h1 := e.run_agg hagg w
      have h2 := e.run_size w
      rw [hid] at h1 h2
      have hrun : (Instr.loadAt t (.pointer (some ⟨r, off, none⟩))).run P w = .ok (.agg ys.toArray) w := by
        simp [Instr.loadAt, Instr.sureAddr, loadVar, h1, h2, hl]
      have := key _ _ _ hrun (.agg hv) hk
      simpa only [execOp, ho, hxe] using this
    · rename_i hagg
      split at hk <;> try (cases hk; done)
      rename_i v hl
      obtain ⟨r', y, hr', hc, hv⟩ := h.mr.load1 hl
      rw [hr] at hr'; cases hr'
      have h1 := e.run_agg hagg w
      rw [hid] at h1
      have hrun : (Instr.loadAt t (.pointer (some ⟨r, off, none⟩))).run P w = .ok y w := by
        simp [Instr.loadAt, Instr.sureAddr, loadVar, h1, hc]
      have := key _ _ _ hrun hv hk
      simpa only [execOp, ho, hxe] using this
  · -- store
    rename_i t x y ho
    split at hk <;> try (cases hk; done)
    rename_i e b off v he hx hy
    have hid := tyf_id he
    have hxv := h.ev hx
    cases hxe : a.eval x <;> rw [hxe] at hxv <;> cases hxv
    rename_i r hr
    have hyv := (h.ev hy).cells
    cases hsz : Nat.beq v.cells.length e.size with
    | false => simp [hsz] at hk
    | true =>
      simp only [hsz, cond_true] at hk
      split at hk <;> try (cases hk; done)
      rename_i m hm
      obtain ⟨r', w', hr', hrun, hmr⟩ := h.mr.store (P := P) hm hyv
      rw [hr] at hr'; cases hr'
      have hl := hyv.length
      have hsz' := Nat.eq_of_beq_eq_true hsz
      have h2 := e.run_size w
      rw [hid] at h2
      have hcl : (a.eval y).cells.size = e.size := by simpa [hsz'] using hl
      simp only [execOp, ho, hxe, Instr.storeAt, Instr.sureAddr, storeVar, Sem.run_bind, Sem.run_pure, Result.andThen_ok, h2, hcl, ne_eq, not_true_eq_false, if_false, hrun, Oper.upon]
      exact hn _ _ ρ _ _ (Ext.refl _) (.tup (xs := []) .nil) hmr (fun hq => by simp [ho, quiet] at hq) hk
  · -- binOp
    rename_i op xt x y yt ho
    split at hk <;> try (cases hk; done)
    rename_i u v hu hv
    obtain ⟨z, zx, h1, h2, h3⟩ := bink_gives (P := P) (h.ev hu) (h.ev hv) hk x y w
    have := key _ z zx h1 h2 h3
    simpa only [execOp, ho] using this
  · -- unOp
    rename_i op xt x ho
    split at hk <;> try (cases hk; done)
    rename_i v hv
    split at hk <;> try (cases hk; done)
    rename_i u hu
    obtain ⟨y, h1, h2⟩ := unv_gives (P := P) hu (h.ev hv) w
    have := key _ _ _ h1 h2 hk
    simpa only [execOp, ho] using this
  · -- convert
    rename_i st dt x ho
    split at hk <;> try (cases hk; done)
    rename_i es e v hes he hv
    split at hk <;> try (cases hk; done)
    rename_i bb u hbb hu
    have hid := tyf_id he
    have hids := tyf_id hes
    have hsrc : ∃ d, P.underlying st = some d := by
      have hkk := es.hk
      rw [hids] at hkk
      unfold kdOf at hkk
      cases hd : P.underlying st with
      | none => rw [hd] at hkk; simp only at hkk; rw [← hkk] at hbb; simp [isAggK] at hbb
      | some d => exact ⟨d, rfl⟩
    obtain ⟨d, hd⟩ := hsrc
    obtain ⟨y, h1, h2⟩ := cnv_gives (P := P) hu (h.ev hv) hd w
    rw [hid] at h1
    have := key _ _ _ h1 h2 hk
    simpa only [execOp, ho] using this
  · -- extract
    rename_i x i ho
    split at hk <;> try (cases hk; done)
    rename_i vs hx
    split at hk <;> try (cases hk; done)
    rename_i v hv
    have hxv := h.ev hx
    cases hxe : a.eval x <;> rw [hxe] at hxv <;> cases hxv
    rename_i xs hxs
    rw [nth_eq] at hv
    obtain ⟨y, hy, hr⟩ := hxs.get i hv
    have hrun : (Instr.extract (.tuple xs.toArray) i).run P w = .ok y w := by simp [Instr.extract, hy]
    have := key _ _ _ hrun hr hk
    simpa only [execOp, ho, hxe] using this
  · -- field
    rename_i t x i ho
    split at hk <;> try (cases hk; done)
    rename_i e cs he hx
    have hid := tyf_id he
    split at hk <;> try (cases hk; done)
    rename_i fs hkd
    split at hk <;> try (cases hk; done)
    rename_i off ft n hf
    split at hk <;> try (cases hk; done)
    rename_i v hv
    have hxv := h.ev hx
    cases hxe : a.eval x <;> rw [hxe] at hxv <;> cases hxv
    rename_i xs hxs
    obtain ⟨F, hu, hfs⟩ := e.fields hkd
    rw [hid] at hu
    rw [hfs, nth_eq] at hf
    simp only [List.getElem?_map, Option.map_eq_some_iff] at hf
    obtain ⟨f, hf1, hf2⟩ := hf
    simp only [Prod.mk.injEq] at hf2
    obtain ⟨rfl, rfl, rfl⟩ := hf2
    obtain ⟨y, h1, h2⟩ := part_run (P := P) hv hxs w
    have hrun : (Instr.field t (.agg xs.toArray) i).run P w = .ok y w := by
      have hf1' : F[i]? = some f := by simpa using hf1
      simp [Instr.field, run_underlying hu, hf1', asAgg, h1]
    have := key _ _ _ hrun h2 hk
    simpa only [execOp, ho, hxe] using this
  · -- fieldAddr
    rename_i t x i ho
    split at hk <;> try (cases hk; done)
    rename_i e b off he hx
    have hid := tyf_id he
    split at hk <;> try (cases hk; done)
    rename_i fs hkd
    split at hk <;> try (cases hk; done)
    rename_i fo ft n hf
    have hxv := h.ev hx
    cases hxe : a.eval x <;> rw [hxe] at hxv <;> cases hxv
    rename_i r hr
    obtain ⟨F, hu, hfs⟩ := e.fields hkd
    rw [hid] at hu
    rw [hfs, nth_eq] at hf
    simp only [List.getElem?_map, Option.map_eq_some_iff] at hf
    obtain ⟨f, hf1, hf2⟩ := hf
    simp only [Prod.mk.injEq] at hf2
    obtain ⟨rfl, rfl, rfl⟩ := hf2
    cases hz : Nat.beq (P.cellsOf f.type) 0 with
    | true => simp [hz] at hk
    | false =>
      simp only [hz, cond_false] at hk
      have hz' : P.cellsOf f.type ≠ 0 := fun hh => by rw [hh] at hz; cases hz
      have hsz := run_cells (P := P) (t := f.type) rfl hz' w
      have hrun : (Instr.fieldAt t (.pointer (some ⟨r, off, none⟩)) i).run P w = .ok (.pointer (some ⟨r, off + f.offset, none⟩)) w := by
        have hf1' : F[i]? = some f := by simpa using hf1
        simp [Instr.fieldAt, run_underlying hu, hf1', Instr.sureAddr, fieldPlace, hsz, hz', addr_add]
      have := key _ _ _ hrun (.ptr hr) hk
      simpa only [execOp, ho, hxe] using this
  · -- index
    rename_i t x i ho
    split at hk <;> try (cases hk; done)
    · rename_i e cs j he hx hi
      have hid := tyf_id he
      split at hk <;> try (cases hk; done)
      rename_i n et es hkd
      have hxv := h.ev hx
      cases hxe : a.eval x <;> rw [hxe] at hxv <;> cases hxv
      rename_i xs hxs
      have hiv := h.ev hi
      cases hie : a.eval i <;> rw [hie] at hiv <;> cases hiv
      cases hb : (decide (0 ≤ j.val) && decide (j.val < (n : Int))) with
      | false => simp [hb] at hk
      | true =>
        simp only [hb, cond_true] at hk
        simp only [Bool.and_eq_true, decide_eq_true_eq] at hb
        split at hk <;> try (cases hk; done)
        rename_i ee hee
        have hide := tyf_id hee
        cases hsz : Nat.beq ee.size es with
        | false => simp [hsz] at hk
        | true =>
          simp only [hsz, cond_true] at hk
          have hsz' := Nat.eq_of_beq_eq_true hsz
          split at hk <;> try (cases hk; done)
          rename_i v hv
          obtain ⟨y, h1, h2⟩ := part_run (P := P) hv hxs w
          have hu : P.underlying t = some (.array n et) := by
            have hkk := e.hk
            rw [hkd, hid] at hkk
            unfold kdOf at hkk
            cases hd : P.underlying t with
            | none => rw [hd] at hkk; simp at hkk
            | some d => rw [hd] at hkk; cases d <;> simp at hkk; obtain ⟨rfl, rfl, _⟩ := hkk; rfl
          have hs := ee.run_size w
          rw [hide, hsz'] at hs
          have hrun : (Instr.index t (.agg xs.toArray) (.int .i64 j.val)).run P w = .ok y w := by
            simp [Instr.index, asIntOf, run_underlying hu, hb, hs, h1]
          have := key _ _ _ hrun h2 hk
          simpa only [execOp, ho, hxe, hie] using this
    · rename_i e b j he hx hi
      have hid := tyf_id he
      split at hk <;> try (cases hk; done)
      rename_i hkd
      have hxv := h.ev hx
      cases hxe : a.eval x <;> rw [hxe] at hxv <;> cases hxv
      have hiv := h.ev hi
      cases hie : a.eval i <;> rw [hie] at hiv <;> cases hiv
      cases hb : Nat.blt j.val.toNat b.size with
      | false => simp [hb] at hk
      | true =>
        simp only [hb, cond_true] at hk
        have hb' : j.val.toNat < b.size := by simpa using hb
        have hu : P.underlying t = some .string := by
          have hkk := e.hk
          rw [hkd, hid] at hkk
          unfold kdOf at hkk
          cases hd : P.underlying t with
          | none => rw [hd] at hkk; simp at hkk
          | some d => rw [hd] at hkk; cases d <;> simp at hkk; rfl
        have h0 : 0 ≤ j.val := by have := j.ok; simp [inB] at this; omega
        have hg : b[j.val.toNat]? = some b[j.val.toNat] := by simp [hb']
        have hval : (strAt b j.val.toNat).val = (b[j.val.toNat].toNat : Int) := by
          have e1 : b.data.getD j.val.toNat 0 = b[j.val.toNat] := by
            simp [Array.getD, hb']; rfl
          have e2 : b[j.val.toNat].toNat < 256 := UInt8.toNat_lt _
          unfold strAt
          rw [e1]
          exact wrap_inB (k := .u8) (by simp [inB]; omega)
        have hrun : (Instr.index t (.string b) (.int .u8 j.val)).run P w = .ok (.int .u8 (strAt b j.val.toNat).val) w := by
          simp [Instr.index, asIntOf, run_underlying hu, h0, hg, hval]
        have := key _ _ _ hrun (.u8 _) hk
        simpa only [execOp, ho, hxe, hie] using this
  · -- indexAddr
    rename_i t x i ho
    split at hk <;> try (cases hk; done)
    rename_i e v j he hx hi
    have hid := tyf_id he
    have hiv := h.ev hi
    cases hie : a.eval i <;> rw [hie] at hiv <;> cases hiv
    have hxv := h.ev hx
    have hkk := e.hk
    rw [hid] at hkk
    split at hk <;> try (cases hk; done)
    · rename_i et es b off l c hkd
      cases hb : (decide (0 ≤ j.val) && decide (j.val < (l : Int)) && !Nat.beq es 0) with
      | false => simp [hb] at hk
      | true =>
        simp only [hb, cond_true] at hk
        simp only [Bool.and_eq_true, decide_eq_true_eq, Bool.not_eq_true'] at hb
        obtain ⟨⟨hb1, hb2⟩, hb3⟩ := hb
        cases hxe : a.eval x <;> rw [hxe] at hxv <;> cases hxv
        rename_i r hr
        rw [hkd] at hkk
        unfold kdOf at hkk
        cases hd : P.underlying t with
        | none => rw [hd] at hkk; simp at hkk
        | some d =>
          rw [hd] at hkk
          cases d <;> simp at hkk
          rename_i elem0
          obtain ⟨rfl, rfl⟩ := hkk
          have hs := run_cells (P := P) (t := elem0) rfl (fun hh => by rw [hh] at hb3; cases hb3) w
          have hrun : (Instr.indexAt t (.slice (some ⟨r, off, none⟩) l c) (.int .i64 j.val)).run P w = .ok (.pointer (some ⟨r, off + j.val.toNat * P.cellsOf elem0, none⟩)) w := by
            simp [Instr.indexAt, asIntOf, run_underlying hd, hb1, hb2, hs, addr_add]
          have := key _ _ _ hrun (.ptr hr) hk
          simpa only [execOp, ho, hxe, hie] using this
    · rename_i n et es b off hkd
      cases hb : (decide (0 ≤ j.val) && decide (j.val < (n : Int)) && !Nat.beq es 0) with
      | false => simp [hb] at hk
      | true =>
        simp only [hb, cond_true] at hk
        simp only [Bool.and_eq_true, decide_eq_true_eq, Bool.not_eq_true'] at hb
        obtain ⟨⟨hb1, hb2⟩, hb3⟩ := hb
        cases hxe : a.eval x <;> rw [hxe] at hxv <;> cases hxv
        rename_i r hr
        rw [hkd] at hkk
        unfold kdOf at hkk
        cases hd : P.underlying t with
        | none => rw [hd] at hkk; simp at hkk
        | some d =>
          rw [hd] at hkk
          cases d <;> simp at hkk
          rename_i len0 elem0
          obtain ⟨rfl, rfl, rfl⟩ := hkk
          have hs := run_cells (P := P) (t := elem0) rfl (fun hh => by rw [hh] at hb3; cases hb3) w
          have hrun : (Instr.indexAt t (.pointer (some ⟨r, off, none⟩)) (.int .i64 j.val)).run P w = .ok (.pointer (some ⟨r, off + j.val.toNat * P.cellsOf elem0, none⟩)) w := by
            simp [Instr.indexAt, asIntOf, run_underlying hd, Instr.sureAddr, hb1, hb2, hs, addr_add]
          have := key _ _ _ hrun (.ptr hr) hk
          simpa only [execOp, ho, hxe, hie] using this
  · -- makeFunc
    rename_i f first caps ho
    cases hz : Nat.beq first.size 0 with
    | false => simp [hz] at hk
    | true =>
      simp only [hz, cond_true] at hk
      split at hk <;> try (cases hk; done)
      rename_i vs hvs
      have h1 := h.evs hvs
      have hf : first = #[] := Array.eq_empty_of_size_eq_zero (Nat.eq_of_beq_eq_true hz)
      subst hf
      have hrun : (Instr.makeFunc (.func f) (#[].map a.eval) (caps.map a.eval)).run P w = .ok (.func (.func f) #[] (caps.toList.map a.eval).toArray) w := by
        have e : caps.map a.eval = (caps.toList.map a.eval).toArray := by apply Array.ext'; simp
        have e2 : (#[] : Array Operand).map a.eval = #[] := by apply Array.ext'; simp
        rw [← e, e2]; rfl
      have := key _ _ _ hrun (.fn h1) hk
      simpa only [execOp, ho] using this
  · -- nilCheck
    rename_i x ho
    split at hk <;> try (cases hk; done)
    · rename_i b off hx
      have hxv := h.ev hx
      cases hxe : a.eval x <;> rw [hxe] at hxv <;> cases hxv
      rename_i r hr
      simp only [execOp, ho, hxe, Sem.run_pure, Oper.upon]
      exact hn _ _ ρ _ w (Ext.refl _) (.ptr hr) h.mr (fun _ => ⟨rfl, rfl⟩) hk
    · rename_i f cs hx
      have hxv := h.ev hx
      cases hxe : a.eval x <;> rw [hxe] at hxv <;> cases hxv
      rename_i xs hxs
      simp only [execOp, ho, hxe, Sem.run_pure, Oper.upon]
      exact hn _ _ ρ _ w (Ext.refl _) (.fn hxs) h.mr (fun _ => ⟨rfl, rfl⟩) hk
  · -- buildSlice
    rename_i t n ps ho
    split at hk <;> try (cases hk; done)
    rename_i e vs he hvs
    have hid := tyf_id he
    split at hk <;> try (cases hk; done)
    rename_i et es hkd
    split at hk <;> try (cases hk; done)
    rename_i ee hee
    have hide := tyf_id hee
    cases hb : (Nat.beq ee.size es && Nat.beq ee.zero.length es && Nat.ble (n * es) 1000 && !Nat.beq (n * es) 0) with
    | false => simp [hb] at hk
    | true =>
      simp only [hb, cond_true] at hk
      simp only [Bool.and_eq_true, Bool.not_eq_true'] at hb
      obtain ⟨⟨⟨b1, b3⟩, b4⟩, b5⟩ := hb
      have b1 := Nat.eq_of_beq_eq_true b1
      have b3 := Nat.eq_of_beq_eq_true b3
      have b4 := Nat.le_of_ble_eq_true b4
      have b5 : n * es ≠ 0 := fun hh => by rw [hh] at b5; cases b5
      have bes : 0 < es := Nat.pos_of_ne_zero fun hh => b5 (by rw [hh, Nat.mul_zero])
      split at hk <;> try (cases hk; done)
      rename_i cs hcs
      obtain ⟨h1, h2⟩ := h.evps hvs
      obtain ⟨z, hz, hzc⟩ := ee.run_zero w
      have hkk := e.hk
      rw [hid, hkd] at hkk
      unfold kdOf at hkk
      cases hd : P.underlying t with
      | none => rw [hd] at hkk; simp at hkk
      | some d =>
        rw [hd] at hkk
        cases d <;> simp at hkk
        rename_i elem0
        obtain ⟨rfl, hes⟩ := hkk
        have hp := ee.hp
        have hzs : z.cells.size = es := by have := congrArg List.length hzc; simpa [b3] using this
        have hat : ∀ i, i < es → VR ρ (ee.zero.getD i .nils) (z.cells[i]!) := by
          intro i hi
          have hi' : i < ee.zero.length := by omega
          have e1 : ee.zero.getD i .nils = ee.zero[i] := by simp [List.getD, hi']
          have e2 : z.cells[i]! = (ee.zero[i]).valD := by
            have : z.cells.toList[i]? = some (ee.zero[i]).valD := by rw [hzc]; simp [hi']
            have h3 : z.cells[i]? = some (ee.zero[i]).valD := by simpa using this
            have hi2 : i < z.cells.size := by omega
            rw [getElem!_pos z.cells i hi2]
            simpa [hi2] using h3
          rw [e1, e2]
          exact VR.valD (List.all_eq_true.1 hp _ (List.getElem_mem hi'))
        have hz0r : VRs ρ ((List.range (n * es)).map fun i => ee.zero.getD (i % es) .nils) ((List.range (n * es)).map fun i => z.cells[i % z.cells.size]!) := by
          rw [hzs]
          induction List.range (n * es) with
          | nil => exact .nil
          | cons i t ih => exact .cons (hat _ (Nat.mod_lt _ bes)) ih
        obtain ⟨xs', h3, h4⟩ := fill_run (ρ := ρ) vs _ cs _ (ps.toList.map (·.1)) _ hcs hz0r h2 h1
        have hzip : (ps.toList.map (·.1)).zip (ps.toList.map fun p => a.eval p.2) = (ps.map fun (p : Nat × Operand) => (p.1, a.eval p.2)).toList := by
          rw [Array.toList_map]
          induction ps.toList with
          | nil => rfl
          | cons p t ih => simp [ih]
        rw [hzip] at h3
        have hs := ee.run_size w
        rw [hide, b1] at hs
        rw [hide] at hz
        have hrow : (Array.range (n * es)).map (fun i => z.cells[i % z.cells.size]!) = ((List.range (n * es)).map fun i => z.cells[i % z.cells.size]!).toArray := by
          apply Array.ext
          · simp
          · intro i h1 h2; simp
        obtain ⟨ρ', e1, e2, e3⟩ := h.mr.new h4 elem0
        have hrun : (Instr.buildSlice t n (ps.map fun (p : Nat × Operand) => (p.1, a.eval p.2))).run P w = .ok (.slice (some ⟨w.heap.size, 0, none⟩) n n) (w.alloc (.cells xs'.toArray elem0)) := by
          simp only [Instr.buildSlice, Sem.run_bind, run_underlying hd w, Result.andThen_ok, hs]
          rw [if_neg (by omega), if_neg b5]
          simp only [Sem.run_bind, hz, Result.andThen_ok, Sem.run_pure, hrow, h3, newRow, run_newObj, World.alloc_eq]
        simp only [execOp, ho, Sem.run_bind, hrun, Result.andThen_ok, Sem.run_pure, Oper.upon]
        exact hn _ _ ρ' _ _ e1 (.slc e2) e3 (fun hq => by simp [ho, quiet] at hq) hk
  · -- call
    rename_i c ho
    split at hk <;> try (cases hk; done)
    · rename_i f hc
      split at hk <;> try (cases hk; done)
      rename_i g caps vs hf hvs
      have hfv := h.ev hf
      cases hfe : a.eval f <;> rw [hfe] at hfv <;> cases hfv
      rename_i xs hxs
      have hargs := (h.evs hvs).append hxs
      have := hcall g _ _ K r hk ρ _ w hargs h.mr o a next Q fun v m' ρ' x w' h1 h2 h3 h4 => hn v m' ρ' x w' h1 h2 h3 (fun hq => by simp [ho, quiet, hc] at hq) h4
      have e : (execOp a.eval o).run P w = (callFunc g ((c.args.toList.map a.eval) ++ xs).toArray).run P w := by
        simp only [execOp, ho, resolve, hc, hfe, Deferred.ofValue, pure_bind, invoke]
        congr 2
        simp
      rw [e]; exact this
    · rename_i hc
      split at hk <;> try (cases hk; done)
      rename_i a0 vs hvs
      split at hk <;> try (cases hk; done)
      rename_i m hm
      have hargs := h.evs hvs
      cases hcl : c.args.toList.map a.eval with
      | nil => rw [hcl] at hargs; cases hargs
      | cons x xs =>
        rw [hcl] at hargs
        cases hargs with
        | cons hx ht =>
          cases hx
          have hr := mins_run (w := w) (P := P) vs xs a0 m hm ht
          have hmap : (c.args.map a.eval).toList = .int .i64 a0.val :: xs := by simpa using hcl
          have hrun : (Builtin.min_ c.argTypes o.type (c.args.map a.eval)).run P w = .ok (.int .i64 m.val) w := by
            unfold Builtin.min_; rw [hmap]; exact hr
          have := key _ _ _ hrun (.i64 m) hk
          simpa only [execOp, ho, resolve, hc, pure_bind, invoke, builtin] using this
    · rename_i hc
      split at hk <;> try (cases hk; done)
      rename_i a0 vs hvs
      split at hk <;> try (cases hk; done)
      rename_i m hm
      have hargs := h.evs hvs
      cases hcl : c.args.toList.map a.eval with
      | nil => rw [hcl] at hargs; cases hargs
      | cons x xs =>
        rw [hcl] at hargs
        cases hargs with
        | cons hx ht =>
          cases hx
          have hr := maxs_run (w := w) (P := P) vs xs a0 m hm ht
          have hmap : (c.args.map a.eval).toList = .int .i64 a0.val :: xs := by simpa using hcl
          have hrun : (Builtin.max_ c.argTypes o.type (c.args.map a.eval)).run P w = .ok (.int .i64 m.val) w := by
            unfold Builtin.max_; rw [hmap]; exact hr
          have := key _ _ _ hrun (.i64 m) hk
          simpa only [execOp, ho, resolve, hc, pure_bind, invoke, builtin] using this
    · rename_i hc
      split at hk <;> try (cases hk; done)
      rename_i t b0 o0 l c0 hts hvs
      split at hk <;> try (cases hk; done)
      rename_i e he
      have hid := tyf_id he
      split at hk <;> try (cases hk; done)
      rename_i et es hkd
      split at hk <;> try (cases hk; done)
      rename_i hin
      have hargs := h.evs hvs
      cases hcl : c.args.toList.map a.eval with
      | nil => rw [hcl] at hargs; cases hargs
      | cons x xs =>
        rw [hcl] at hargs
        cases hargs with
        | cons hx ht =>
          cases ht
          cases hx
          rename_i rr hrr
          have hkk := e.hk
          rw [hid, hkd] at hkk
          unfold kdOf at hkk
          cases hd : P.underlying t with
          | none => rw [hd] at hkk; simp at hkk
          | some d =>
            rw [hd] at hkk
            cases d <;> simp at hkk
            have h1 : c.argTypes[0]? = some t := by
              have : c.argTypes.toList[0]? = some t := by rw [hts]; rfl
              simpa using this
            have h2 : (c.args.map a.eval)[0]? = some (.slice (some ⟨rr, o0, none⟩) l c0) := by
              have : (c.args.toList.map a.eval)[0]? = some (.slice (some ⟨rr, o0, none⟩) l c0) := by rw [hcl]; rfl
              simpa using this
            have hrun : (Builtin.len_ c.argTypes o.type (c.args.map a.eval)).run P w = .ok (.int .i64 (l : Int)) w := by
              simp only [Builtin.len_, h1, h2, Sem.run_bind, run_underlying hd w, Result.andThen_ok, Sem.run_pure, goInt]
            have := key _ _ _ hrun (.i64 ⟨(l : Int), hin⟩) hk
            simpa only [execOp, ho, resolve, hc, pure_bind, invoke, builtin] using this
  · cases hk

end
end Go.Proofs.YtcfflflcbacapaaGreat.Ev
