/-
  A small evaluator for the program's code: a row whose arguments are flat: opening them, and the row's end.
-/
import Derived.Test.YtcfflflcbacapaaGreatEv6
import Derived.ProofKit
namespace Go.Proofs.YtcfflflcbacapaaGreat.Ev
open Go Go.RowKit Go.ChangeShapes Go.WideShapes
set_option linter.unusedSimpArgs false
set_option linter.unusedVariables false

inductive Lk where | bool | i64 | u64 | u8 | str
def V.lk : V → Option Lk
  | .bool _ => some .bool
  | .i64 _ => some .i64
  | .u64 _ => some .u64
  | .u8 _ => some .u8
  | .str _ => some .str
  | _ => none
def fieldsK (P : Program) (rec : TypeId → Option (List Lk)) : List Field → Nat → Option (List Lk)
  | [], _ => some []
  | f :: fs, off => match rec f.type with
    | some ks => bif Nat.beq f.offset off && Nat.beq (P.cellsOf f.type) ks.length then match fieldsK P rec fs (off + ks.length) with
        | some r => some (ks ++ r)
        | none => none
      else none
    | none => none
def leafK (P : Program) : Nat → TypeId → Option (List Lk)
  | 0, _ => none
  | n + 1, t => match P.underlying t with
    | some .bool => some [.bool]
    | some (.int .i64) => some [.i64]
    | some (.int .u64) => some [.u64]
    | some (.int .u8) => some [.u8]
    | some .string => some [.str]
    | some (.struct fs) => match fieldsK P (leafK P n) fs.toList 0 with
      | some ks => bif Nat.beq (P.cellsOf t) ks.length then some ks else none
      | none => none
    | _ => none

section
variable {H : Type} {enc : TypeId × Value → H} {P : Program} {w : World} {base : Nat} {spare : Nat → Bool} {held : Bool} {ρ : Nat → Option Nat}

theorem has_inB {k : IntKind} {n : Int} (h : (Lit.int k n).wf = true) (hk : k = .i64 ∨ k = .u64 ∨ k = .u8) : inB k n = true := by
  rcases hk with rfl | rfl | rfl <;> simp [Lit.wf, IntKind.min, IntKind.max, IntKind.signed, IntKind.bits, inB] at h ⊢ <;> omega

theorem fields_vrs {rec : TypeId → Option (List Lk)} {cs : List Value} : ∀ (l : List Field) (off : Nat) (ks : List Lk), fieldsK P rec l off = some ks →
    (∀ f ∈ l, ∀ k, rec f.type = some k → ∃ vs, VRs ρ vs ((cs.drop f.offset).take (P.cellsOf f.type)) ∧ vs.map V.lk = k.map some) → off + ks.length = cs.length →
    ∃ vs, VRs ρ vs (cs.drop off) ∧ vs.map V.lk = ks.map some
  | [], off, ks, h, hp, hl => by
    simp [fieldsK] at h; subst h
    simp at hl; subst hl
    exact ⟨[], by simp; exact .nil, rfl⟩
  | f :: l, off, ks, h, hp, hl => by
    simp only [fieldsK] at h
    split at h <;> try (cases h; done)
    rename_i k hk
    cases hb : (Nat.beq f.offset off && Nat.beq (P.cellsOf f.type) k.length) with
    | false => simp [hb] at h
    | true =>
      simp only [hb, cond_true] at h
      split at h <;> try (cases h; done)
      rename_i r hr
      cases h
      simp only [Bool.and_eq_true] at hb
      have h1 := Nat.eq_of_beq_eq_true hb.1
      have h2 := Nat.eq_of_beq_eq_true hb.2
      obtain ⟨v1, a1, b1⟩ := hp f (by simp) k hk
      obtain ⟨v2, a2, b2⟩ := fields_vrs l (off + k.length) r hr (fun f hf => hp f (by simp [hf])) (by simp at hl; omega)
      refine ⟨v1 ++ v2, ?_, by simp [b1, b2]⟩
      rw [h1, h2] at a1
      have := a1.append a2
      rwa [← List.drop_drop, List.take_append_drop] at this

theorem trod_leaf : ∀ (n : Nat) (t : TypeId) (ks : List Lk), leafK P n t = some ks → ∀ (fuel : Nat) (cs : List Value) (x : DataW H × List MemPlace), DataW.trod enc P w base spare held fuel t cs = some x →
    (∃ vs, VRs ρ vs cs ∧ vs.map V.lk = ks.map some) ∧ x.2 = []
  | 0, t, ks, h, _, _, _, _ => by simp [leafK] at h
  | n + 1, t, ks, h, fuel, cs, x, hd => by
    simp only [leafK] at h
    split at h <;> try (cases h; done)
    · rename_i ht; cases h
      obtain ⟨b, rfl, rfl⟩ := DataW.trod_bool ht hd
      exact ⟨⟨[.bool b], .cons (.bool b) .nil, rfl⟩, rfl⟩
    · rename_i ht; cases h
      obtain ⟨m, rfl, rfl, hw⟩ := DataW.trod_int ht hd
      exact ⟨⟨[.i64 ⟨m, has_inB hw (by simp)⟩], .cons (.i64 _) .nil, rfl⟩, rfl⟩
    · rename_i ht; cases h
      obtain ⟨m, rfl, rfl, hw⟩ := DataW.trod_int ht hd
      exact ⟨⟨[.u64 ⟨m, has_inB hw (by simp)⟩], .cons (.u64 _) .nil, rfl⟩, rfl⟩
    · rename_i ht; cases h
      obtain ⟨m, rfl, rfl, hw⟩ := DataW.trod_int ht hd
      exact ⟨⟨[.u8 ⟨m, has_inB hw (by simp)⟩], .cons (.u8 _) .nil, rfl⟩, rfl⟩
    · rename_i ht; cases h
      obtain ⟨b, rfl, rfl, _⟩ := DataW.trod_string ht hd
      exact ⟨⟨[.str b], .cons (.str b) .nil, rfl⟩, rfl⟩
    · rename_i fs ht
      split at h <;> try (cases h; done)
      rename_i ks' hk
      cases hb : Nat.beq (P.cellsOf t) ks'.length with
      | false => simp [hb] at h
      | true =>
        simp only [hb, cond_true, Option.some.injEq] at h
        subst h
        have hb := Nat.eq_of_beq_eq_true hb
        obtain ⟨xs, m, rfl, rfl, hl, hxl, hx⟩ := DataW.trod_struct ht hd
        have each : ∀ f ∈ fs.toList, ∃ y ∈ xs, DataW.trod enc P w base spare held m f.type ((cs.drop f.offset).take (P.cellsOf f.type)) = some y := by
          intro f hf
          obtain ⟨i, hi, he⟩ := List.getElem_of_mem hf
          have he' : fs[i]? = some f := by simp at hi he; simp [he, hi]
          have hi' : i < xs.length := by simp at hi; omega
          exact ⟨xs[i], List.getElem_mem hi', by rw [hx i f he']; simp [hi']⟩
        have all : ∀ f ∈ fs.toList, ∀ k, leafK P n f.type = some k → ∀ y, DataW.trod enc P w base spare held m f.type ((cs.drop f.offset).take (P.cellsOf f.type)) = some y →
            (∃ vs, VRs ρ vs ((cs.drop f.offset).take (P.cellsOf f.type)) ∧ vs.map V.lk = k.map some) ∧ y.2 = [] := fun f hf k hk y hy => trod_leaf n f.type k hk m _ y hy
        refine ⟨?_, ?_⟩
        · have := fields_vrs (P := P) (ρ := ρ) (cs := cs) fs.toList 0 ks' hk (fun f hf k hk => by
            obtain ⟨y, _, hy⟩ := each f hf
            exact (all f hf k hk y hy).1) (by omega)
          simpa using this
        · have known : ∀ (l : List Field) (off : Nat) (r : List Lk), fieldsK P (leafK P n) l off = some r → ∀ f ∈ l, ∃ k, leafK P n f.type = some k := by
            intro l
            induction l with
            | nil => intro _ _ _ f hf; cases hf
            | cons g l ih =>
              intro off r h f hf
              simp only [fieldsK] at h
              split at h <;> try (cases h; done)
              rename_i k hk
              cases hb : (Nat.beq g.offset off && Nat.beq (P.cellsOf g.type) k.length) with
              | false => simp [hb] at h
              | true =>
                simp only [hb, cond_true] at h
                split at h <;> try (cases h; done)
                rename_i r' hr'
                rcases List.mem_cons.1 hf with rfl | hf
                · exact ⟨k, hk⟩
                · exact ih _ _ hr' f hf
          simp only [List.flatMap_eq_nil_iff]
          intro y hy
          obtain ⟨i, hi, he⟩ := List.getElem_of_mem hy
          have hif : i < fs.size := by omega
          have hfi : fs[i]? = some fs[i] := by simp [hif]
          obtain ⟨k, hk'⟩ := known fs.toList 0 ks' hk fs[i] (by simp)
          refine (all fs[i] (by simp) k hk' y ?_).2
          rw [hx i _ hfi]; simp [hi, he]

theorem trod_any : ∀ (n : Nat) (t : TypeId) (ks : List Lk), leafK P n t = some ks → ∀ (fuel : Nat) (cs : List Value) (x : DataW H × List MemPlace) (w' : World) (base' : Nat) (spare' : Nat → Bool) (held' : Bool),
    DataW.trod enc P w base spare held fuel t cs = some x → DataW.trod enc P w' base' spare' held' fuel t cs = some x
  | 0, t, ks, h => by simp [leafK] at h
  | n + 1, t, ks, h => by
    intro fuel cs x w' base' spare' held' hd
    cases fuel with
    | zero => simp [DataW.trod] at hd
    | succ m =>
      simp only [leafK] at h
      split at h <;> try (cases h; done)
      all_goals rename_i ht
      · obtain ⟨b, rfl, rfl⟩ := DataW.trod_bool ht hd
        simp [DataW.trod, ht]
      · obtain ⟨b, rfl, rfl, hw⟩ := DataW.trod_int ht hd
        simp [DataW.trod, ht, hw]
      · obtain ⟨b, rfl, rfl, hw⟩ := DataW.trod_int ht hd
        simp [DataW.trod, ht, hw]
      · obtain ⟨b, rfl, rfl, hw⟩ := DataW.trod_int ht hd
        simp [DataW.trod, ht, hw]
      · obtain ⟨b, rfl, rfl, hw⟩ := DataW.trod_string ht hd
        simp [DataW.trod, ht, hw]
      · rename_i fs
        split at h <;> try (cases h; done)
        rename_i ks' hk
        have same : ∀ (l : List Field) (off : Nat) (r : List Lk), fieldsK P (leafK P n) l off = some r → ∀ ys,
            (l.mapM fun f => DataW.trod enc P w base spare held m f.type ((cs.drop f.offset).take (P.cellsOf f.type))) = some ys →
            (l.mapM fun f => DataW.trod enc P w' base' spare' held' m f.type ((cs.drop f.offset).take (P.cellsOf f.type))) = some ys := by
          intro l
          induction l with
          | nil => intro _ _ _ ys h; simpa using h
          | cons g l ih =>
            intro off r h ys hy
            simp only [fieldsK] at h
            split at h <;> try (cases h; done)
            rename_i k hk
            cases hb : (Nat.beq g.offset off && Nat.beq (P.cellsOf g.type) k.length) with
            | false => simp [hb] at h
            | true =>
              simp only [hb, cond_true] at h
              split at h <;> try (cases h; done)
              rename_i r' hr'
              simp only [List.mapM_cons, Option.bind_eq_bind, Option.bind_eq_some_iff, Option.pure_def, Option.some.injEq] at hy ⊢
              obtain ⟨a, ha, b, hb', hc⟩ := hy
              exact ⟨a, trod_any n g.type k hk m _ a w' base' spare' held' ha, b, ih _ _ hr' b hb', hc⟩
        unfold DataW.trod at hd ⊢
        simp only [ht] at hd ⊢
        split at hd
        · rename_i hl
          rw [if_pos hl]
          cases hm : (fs.toList.mapM fun f => DataW.trod enc P w base spare held m f.type ((cs.drop f.offset).take (P.cellsOf f.type))) with
          | none => rw [hm] at hd; cases hd
          | some ys => rw [hm] at hd; rw [same _ _ _ hk ys hm]; exact hd
        · cases hd

def isAggT (P : Program) (t : TypeId) : Bool := match P.underlying t with
  | some (.struct _) => true
  | _ => false

class Arg (α : Type) extends Enc α where
  ks : List Lk
  agg : Bool
  of : ∀ vs : List V, vs.map V.lk = ks.map some → ∃ x : α, (bif agg then .agg vs else oneV vs) = enc x

theorem open_arg {α : Type} [Arg α] {r : Reach} {b0 : Nat} {t : TypeId} {v : Value} {d : DataW H} {ps : List MemPlace} (hk : leafK P 8 t = some (Arg.ks α)) (ha : isAggT P t = Arg.agg α)
    (hval : Value.okWide P w r b0 t v) (hd : DataW.Trod enc P w base spare held t v d ps) :
    (∃ x : α, ∀ ρ, VR ρ (Ev.enc x) v) ∧ ps = [] ∧ ∀ (w' : World) (base' : Nat) (spare' : Nat → Bool) (held' : Bool), DataW.Trod enc P w' base' spare' held' t v d [] := by
  obtain ⟨fuel, hf⟩ := hd
  obtain ⟨⟨vs, h1, h2⟩, h3⟩ := trod_leaf (ρ := fun _ => none) 8 t _ hk fuel _ _ hf
  simp only at h3
  subst h3
  refine ⟨?_, rfl, fun w' base' spare' held' => ⟨fuel, trod_any 8 t _ hk fuel _ _ w' base' spare' held' hf⟩⟩
  obtain ⟨x, hx⟩ := Arg.of (α := α) vs h2
  have hpf : (Ev.enc x).pf = true := Enc.pf x
  refine ⟨x, fun ρ => VR.pf (ρ := fun _ => none) ?_ hpf⟩
  show VR (fun _ => none) (Enc.enc x) v
  rw [← hx]
  rw [← ha]
  unfold isAggT
  unfold leafK at hk
  split
  · rename_i fs ht
    obtain ⟨cs, rfl, _⟩ := okWide_struct ht hval
    have := VR.agg h1
    simpa [Value.cells] using this
  · rename_i hns
    split at hk <;> try (cases hk; done)
    all_goals rename_i ht
    · obtain ⟨b, rfl⟩ := okWide_bool ht hval; simp [Value.cells] at h1; cases h1 with | cons h t => cases t; exact h
    · obtain ⟨b, rfl⟩ := okWide_int ht hval; simp [Value.cells] at h1; cases h1 with | cons h t => cases t; exact h
    · obtain ⟨b, rfl⟩ := okWide_int ht hval; simp [Value.cells] at h1; cases h1 with | cons h t => cases t; exact h
    · obtain ⟨b, rfl⟩ := okWide_int ht hval; simp [Value.cells] at h1; cases h1 with | cons h t => cases t; exact h
    · obtain ⟨b, rfl⟩ := okWide_string ht hval; simp [Value.cells] at h1; cases h1 with | cons h t => cases t; exact h
    · exact absurd ht (hns _)

/-- 'post' of a law that gives true, where what came in is flat. -/
theorem post_flat {f : Func} {s : ChangeSpec} {apart fresh handsOn again : Bool} {W W' : World} {args : Array Value} {v : Value} {ds gs : List (DataW H)}
    (hW : DataW.Whole enc P f.params.toList s.vars apart W args.toList ds gs [])
    (hres : ∀ (b : Nat) (sp : Nat → Bool) (hd : Bool), DataW.TrodAll enc P W' b sp hd f.resultTypes.toList (v.resultList f.resultTypes.size) (s.fn H (ds ++ gs)).results [])
    (hargs : ∀ sp : Nat → Bool, DataW.TrodAll enc P W' 0 sp true f.params.toList args.toList (s.fn H (ds ++ gs)).args [])
    (hvars : ∀ sp : Nat → Bool, DataW.TrodVars enc P W' sp s.vars (s.fn H (ds ++ gs)).vars [])
    (hb : Below W.heap.size W W')
    (hok : ∀ (j : Nat) (t : TypeId) (r : Value), f.resultTypes[j]? = some t → (v.resultList f.resultTypes.size)[j]? = some r → Value.okWide P W' .any 0 t r) :
    s.post enc P f apart fresh handsOn again W args v W' := by
  refine ⟨ds, gs, [], [], [], [], hW, hres _ _ _, hargs _, hvars _, hb.frame _, fun _ => ?_⟩
  obtain ⟨_, _, _, _, _, hz, hn⟩ := hW
  refine ⟨hok, _, _, ([] ++ []) ++ [], ⟨[] ++ [], [], trodAll_append (hargs _) (hres _ _ _), hvars _, rfl, fun b off hp => by simp at hp, fun ha => by simp⟩, fun p hp _ => by simp at hp⟩
end

theorem lk_i64 {v : V} (h : v.lk = some .i64) : ∃ x, v = .i64 x := by cases v <;> simp [V.lk] at h; exact ⟨_, rfl⟩
theorem lk_u64 {v : V} (h : v.lk = some .u64) : ∃ x, v = .u64 x := by cases v <;> simp [V.lk] at h; exact ⟨_, rfl⟩
theorem lk_u8 {v : V} (h : v.lk = some .u8) : ∃ x, v = .u8 x := by cases v <;> simp [V.lk] at h; exact ⟨_, rfl⟩
theorem lk_bool {v : V} (h : v.lk = some .bool) : ∃ x, v = .bool x := by cases v <;> simp [V.lk] at h; exact ⟨_, rfl⟩
theorem lk_str {v : V} (h : v.lk = some .str) : ∃ x, v = .str x := by cases v <;> simp [V.lk] at h; exact ⟨_, rfl⟩
theorem map_cons {vs : List V} {k : Option Lk} {ks : List (Option Lk)} (h : vs.map V.lk = k :: ks) : ∃ v us, vs = v :: us ∧ v.lk = k ∧ us.map V.lk = ks := by
  cases vs with
  | nil => cases h
  | cons v us => simp at h; exact ⟨v, us, rfl, h.1, h.2⟩
theorem map_nil {vs : List V} (h : vs.map V.lk = []) : vs = [] := by simpa using h

instance : Arg I64 where
  ks := [.i64]
  agg := false
  of := fun vs h => by
    obtain ⟨v, us, rfl, h, hn⟩ := map_cons h; obtain ⟨a, rfl⟩ := lk_i64 h; cases map_nil hn; exact ⟨a, rfl⟩
instance : Arg Bool where
  ks := [.bool]
  agg := false
  of := fun vs h => by
    obtain ⟨v, us, rfl, h, hn⟩ := map_cons h; obtain ⟨a, rfl⟩ := lk_bool h; cases map_nil hn; exact ⟨a, rfl⟩
instance : Arg ByteArray where
  ks := [.str]
  agg := false
  of := fun vs h => by
    obtain ⟨v, us, rfl, h, hn⟩ := map_cons h; obtain ⟨a, rfl⟩ := lk_str h; cases map_nil hn; exact ⟨a, rfl⟩
instance : Arg Iv where
  ks := [.i64, .i64]
  agg := true
  of := fun vs h => by
    obtain ⟨v, us, rfl, k1, h1⟩ := map_cons h; obtain ⟨a, rfl⟩ := lk_i64 k1
    obtain ⟨v, us, rfl, k1, h2⟩ := map_cons h1; obtain ⟨b, rfl⟩ := lk_i64 k1
    cases map_nil h2; exact ⟨⟨a, b⟩, rfl⟩
instance : Arg Point where
  ks := [.i64, .i64]
  agg := true
  of := fun vs h => by
    obtain ⟨v, us, rfl, k1, h1⟩ := map_cons h; obtain ⟨a, rfl⟩ := lk_i64 k1
    obtain ⟨v, us, rfl, k1, h2⟩ := map_cons h1; obtain ⟨b, rfl⟩ := lk_i64 k1
    cases map_nil h2; exact ⟨⟨a, b⟩, rfl⟩
instance : Arg Place where
  ks := [.i64, .i64, .i64]
  agg := true
  of := fun vs h => by
    obtain ⟨v, us, rfl, k1, h1⟩ := map_cons h; obtain ⟨a, rfl⟩ := lk_i64 k1
    obtain ⟨v, us, rfl, k1, h2⟩ := map_cons h1; obtain ⟨b, rfl⟩ := lk_i64 k1
    obtain ⟨v, us, rfl, k1, h3⟩ := map_cons h2; obtain ⟨c, rfl⟩ := lk_i64 k1
    cases map_nil h3; exact ⟨⟨⟨a, b⟩, c⟩, rfl⟩
instance : Arg Ell where
  ks := [.i64, .i64, .i64]
  agg := true
  of := fun vs h => by
    obtain ⟨v, us, rfl, k1, h1⟩ := map_cons h; obtain ⟨a, rfl⟩ := lk_i64 k1
    obtain ⟨v, us, rfl, k1, h2⟩ := map_cons h1; obtain ⟨b, rfl⟩ := lk_i64 k1
    obtain ⟨v, us, rfl, k1, h3⟩ := map_cons h2; obtain ⟨c, rfl⟩ := lk_i64 k1
    cases map_nil h3; exact ⟨⟨a, b, c⟩, rfl⟩
instance : Arg Proj where
  ks := [.i64, .i64, .i64, .i64, .i64]
  agg := true
  of := fun vs h => by
    obtain ⟨v, us, rfl, k1, h1⟩ := map_cons h; obtain ⟨a, rfl⟩ := lk_i64 k1
    obtain ⟨v, us, rfl, k1, h2⟩ := map_cons h1; obtain ⟨b, rfl⟩ := lk_i64 k1
    obtain ⟨v, us, rfl, k1, h3⟩ := map_cons h2; obtain ⟨c, rfl⟩ := lk_i64 k1
    obtain ⟨v, us, rfl, k1, h4⟩ := map_cons h3; obtain ⟨d, rfl⟩ := lk_i64 k1
    obtain ⟨v, us, rfl, k1, h5⟩ := map_cons h4; obtain ⟨e, rfl⟩ := lk_i64 k1
    cases map_nil h5; exact ⟨⟨a, b, c, d, e⟩, rfl⟩
instance : Arg Planar where
  ks := [.i64, .i64, .i64, .i64]
  agg := true
  of := fun vs h => by
    obtain ⟨v, us, rfl, k1, h1⟩ := map_cons h; obtain ⟨a, rfl⟩ := lk_i64 k1
    obtain ⟨v, us, rfl, k1, h2⟩ := map_cons h1; obtain ⟨b, rfl⟩ := lk_i64 k1
    obtain ⟨v, us, rfl, k1, h3⟩ := map_cons h2; obtain ⟨c, rfl⟩ := lk_i64 k1
    obtain ⟨v, us, rfl, k1, h4⟩ := map_cons h3; obtain ⟨d, rfl⟩ := lk_i64 k1
    cases map_nil h4; exact ⟨⟨⟨a, b⟩, ⟨c, d⟩⟩, rfl⟩
instance : Arg Vec where
  ks := [.i64, .i64, .i64, .i64, .i64, .i64]
  agg := true
  of := fun vs h => by
    obtain ⟨v, us, rfl, k1, h1⟩ := map_cons h; obtain ⟨a, rfl⟩ := lk_i64 k1
    obtain ⟨v, us, rfl, k1, h2⟩ := map_cons h1; obtain ⟨b, rfl⟩ := lk_i64 k1
    obtain ⟨v, us, rfl, k1, h3⟩ := map_cons h2; obtain ⟨c, rfl⟩ := lk_i64 k1
    obtain ⟨v, us, rfl, k1, h4⟩ := map_cons h3; obtain ⟨d, rfl⟩ := lk_i64 k1
    obtain ⟨v, us, rfl, k1, h5⟩ := map_cons h4; obtain ⟨e, rfl⟩ := lk_i64 k1
    obtain ⟨v, us, rfl, k1, h6⟩ := map_cons h5; obtain ⟨f, rfl⟩ := lk_i64 k1
    cases map_nil h6; exact ⟨⟨⟨a, b⟩, ⟨c, d⟩, ⟨e, f⟩⟩, rfl⟩

end Go.Proofs.YtcfflflcbacapaaGreat.Ev
