/-
  The walk of turnsIn, by hand: it appends to a list of unknown length.
-/
import Derived.Test.YtcfflflcbacapaaGreatP10
import Derived.Test.YtcfflflcbacapaaGreatW4
import Derived.Laws.AppendOwn
import Derived.Great.Walk
import Derived.KernelRfl
namespace Go.Proofs.YtcfflflcbacapaaGreat.Ev
open Go Go.RowKit
set_option maxRecDepth 100000
set_option linter.unusedSimpArgs false
set_option linter.unusedVariables false

/-! ### parts of a code -/
def sL : Code → Code
  | .seq a _ => a
  | c => c
def sR : Code → Code
  | .seq _ b => b
  | c => c
def unb : Code → Code
  | .block _ a => a
  | c => c
def unl : Code → Code
  | .loop a => a
  | c => c
def thn : Code → Code
  | .cond _ a _ => a
  | c => c
def opsL : Code → List Oper
  | .region _ ops _ => ops.toList
  | _ => []

/-! ### what is kept of a state -/
def pk {α : Type} (l : List (Nat × α)) : List Nat → Option (List (Nat × α))
  | [] => some []
  | t :: ts => match lk l t, pk l ts with
    | some v, some r => some ((t, v) :: r)
    | _, _ => none
theorem pk_lk {α : Type} {l : List (Nat × α)} : ∀ {ts : List Nat} {r : List (Nat × α)}, pk l ts = some r → ∀ t v, lk r t = some v → lk l t = some v
  | [], r, h, t, v, hv => by simp [pk] at h; subst h; simp [lk] at hv
  | u :: ts, r, h, t, v, hv => by
    simp only [pk] at h
    split at h <;> try (cases h; done)
    rename_i x r' h1 h2
    cases h
    simp only [lk_cons] at hv
    by_cases hu : u = t
    · subst hu; simp at hv; subst hv; exact h1
    · rw [if_neg hu] at hv; exact pk_lk h2 t v hv
def pick (sl bl : List Nat) (s : St) : Option St :=
  match pk s.tm sl, pk s.mm.blks bl with
  | some tm, some bs => some ⟨tm, s.n, ⟨bs, s.mm.nxt, s.mm.lo⟩⟩
  | _, _ => none
section
variable {P : Program}
theorem pick_rel {sl bl : List Nat} {s s' : St} (h : pick sl bl s = some s') {w0 : World} {ρ : Nat → Option Nat} {a : Act} {w : World} (hr : Rel w0 ρ s a w) : Rel w0 ρ s' a w := by
  unfold pick at h
  split at h <;> try (cases h; done)
  rename_i tm bs h1 h2
  cases h
  exact ⟨fun t v ht => hr.tm t v (pk_lk h1 t v ht), hr.sz, hr.df, ⟨fun b cs hb => hr.mr.blk b cs (pk_lk h2 b cs hb), hr.mr.inj, hr.mr.fresh, hr.mr.dom, hr.mr.own, hr.mr.bel, hr.mr.lon⟩⟩
def Piece (t : Tb P) (c : Code) (sl bl : List Nat) (s : St) : Option (X × St) :=
  evC (A := X × St) t.T (callk t.T (fun _ => t.drw) t.Es t.Bs t.N t.d) t.drw (fun _ => none) t.N c s fun z s' => match pick sl bl s' with
    | some s'' => some (z, s'')
    | none => none
theorem piece {t : Tb P} {c : Code} {sl bl : List Nat} {s s1 : St} {z : X} (h : Piece t c sl bl s = some (z, s1)) {w0 : World} {ρ : Nat → Option Nat} {a : Act} {w : World} {Q : Exit → Act → World → Prop} (hr : Rel w0 ρ s a w)
    (hq : ∀ ρ' a' w', Ext ρ ρ' → Rel w0 ρ' s1 a' w' → Q z.out a' w') : c.wp P Q a w := by
  refine evC_sound (callk_ok (fun _ _ => t.draw_ok w0) t.d) (t.draw_ok w0) c (fun _ _ _ h => by cases h) _ _ h ρ a w _ hr fun q s' ρ' a' w' ext hr' hk => ?_
  dsimp only at hk
  split at hk <;> try (cases hk; done)
  rename_i s'' hc
  simp only [Option.some.injEq, Prod.mk.injEq] at hk
  obtain ⟨rfl, rfl⟩ := hk
  exact hq ρ' a' w' ext (pick_rel hc hr')
/-- A function's start. -/
theorem does_of_wp (b : Bod P) {vs : List V} {xs : List Value} {w : World} (hle : vs.length ≤ b.fn.ntmps) {ρ : Nat → Option Nat} (hv : VRs ρ vs xs) (hp : V.pfs vs = true) {R : Value → World → Prop}
    (h : ∀ a, Rel w (fun _ => none) ⟨zipF 0 vs, b.fn.ntmps, ⟨[], 0, 0⟩⟩ a w → b.code.wp P (bodyPost P b.fn fun e w' => ∃ x, e = .returned x ∧ R x w') a w) : Does P b.id xs.toArray w R := by
  intro o a next Q hn
  rw [callFunc_enter, Oper.upon_enter]
  have hl := hv.length
  have hv' : VRs (fun _ => none) vs xs := hv.pf hp
  refine Calls.mono (calls_of_wp b.hf b.hb (h _ ⟨fun t v ht => ?_, by simp; omega, rfl, MRel.empty w⟩)) fun e w' he => ?_
  · obtain ⟨x, _, h1, h2⟩ := zipF_lk vs xs 0 t v hv' ht
    refine ⟨x, ?_, h2⟩
    have hlt : t < xs.length := by
      rcases Nat.lt_or_ge t xs.length with h | h
      · exact h
      · simp [List.getElem?_eq_none h] at h1
    have h1' : xs[t]? = some x := by simpa using h1
    simp only [Array.getElem?_append, List.size_toArray, hlt, if_true, List.getElem?_toArray, h1']
  · obtain ⟨x, rfl, h1⟩ := he
    exact hn x w' h1
end

/-! ### a list of numbers that is one's own -/
def iv64 (k : I64) : Value := .int .i64 k.val
def OwnI (B : Nat) (e : TypeId) (w : World) (v : Value) (l : List I64) : Prop :=
  (v = .slice none 0 0 ∧ l = []) ∨
  ∃ g cap, ∃ m : List I64, v = .slice (some ⟨g, 0, none⟩) l.length cap ∧ B ≤ g ∧ w.heap[g]? = some (.cells ((l ++ m).map iv64).toArray e (0, 0)) ∧ (l ++ m).length = cap ∧ cap ≤ maxLen
theorem OwnI.below {B : Nat} {e : TypeId} {w w' : World} {v : Value} {l : List I64} (h : OwnI B e w v l) (hb : Below w.heap.size w w') : OwnI B e w' v l := by
  rcases h with h | ⟨g, cap, m, h1, h2, h3, h4⟩
  · exact .inl h
  · exact .inr ⟨g, cap, m, h1, h2, by rw [hb.block g (Array.getElem?_eq_some_iff.1 h3).1]; exact h3, h4⟩
theorem zero_cells (n : Nat) : Builtin.zeroCells #[.int .i64 0] n = ((List.replicate n (⟨0, rfl⟩ : I64)).map iv64).toArray := by
  unfold Builtin.zeroCells
  apply Array.ext
  · simp
  · intro i h1 h2
    simp [iv64, Nat.mod_one]
theorem append_one {P : Program} (B : Nat) (t ty e : TypeId) (i : TypeInfo) (z : Value) (ht : P.underlying t = some (.slice e)) (hi : P.info? e = some i) (hz : i.zero = some z)
    (hsz : i.size = 1) (hby : i.bytes = 8) (hzc : z.cells = #[.int .i64 0]) {w : World} {v : Value} {l : List I64} (h : OwnI B e w v l) (hB : B ≤ w.heap.size) (k : I64) (a : Addr) (c : Nat) (hk : w.cell? (a.add 0) = some (iv64 k)) (hl : l.length ≤ 4000) :
    ∃ v' w', (Builtin.append_ #[t, t] ty #[v, .slice (some a) 1 c]).run P w = .ok v' w' ∧ OwnI B e w' v' (l ++ [k]) ∧ w.grownBy w' v.ownBlock ∧ (v'.ownBlock = v.ownBlock ∨ v'.ownBlock = some w.heap.size) := by
  have hnews : ∀ j u, [iv64 k][j]? = some u → w.cell? (a.add j) = some u := fun j u hj => by
    cases j with
    | zero => simp at hj; subst hj; exact hk
    | succ j => simp at hj
  have grown : ∀ (old : Nat), old < l.length + 1 → ∀ row, OwnI B e (w.drew.alloc (.cells ((l.map iv64).toArray ++ [iv64 k].toArray ++ Builtin.zeroCells z.cells (grownCap w (l.length + 1) old e - (l.length + 1))) e)) (.slice (some ⟨w.heap.size, 0, none⟩) (l.length + 1) (grownCap w (l.length + 1) old e)) (l ++ [k]) ∧
      w.grownBy (w.drew.alloc (.cells ((l.map iv64).toArray ++ [iv64 k].toArray ++ Builtin.zeroCells z.cells (grownCap w (l.length + 1) old e - (l.length + 1))) e)) row := by
    intro old ho row
    have hge := grownCap_ge w (l.length + 1) old e
    have hcm : grownCap w (l.length + 1) old e ≤ maxLen := grownCap_le_maxLen w (l.length + 1) old e (by simp only [maxLen]; omega)
    refine ⟨.inr ⟨w.heap.size, _, List.replicate (grownCap w (l.length + 1) old e - (l.length + 1)) ⟨0, rfl⟩, by simp, hB, ?_, by simp; omega, hcm⟩, ⟨rfl, rfl, rfl, by simp, fun k hk _ => heap_alloc_old w.drew _ hk⟩⟩
    rw [hzc, zero_cells]
    refine (heap_alloc_new w.drew _).trans ?_
    simp
  rcases h with ⟨rfl, rfl⟩ | ⟨g, cap, m, rfl, h2, h3, h4, h5⟩
  · have hr := run_append_nil (P := P) w t ty e i z ht hi hz a 1 c [iv64 k] (by simp [hsz]) hnews (by decide) (by decide) (by rw [hby]; decide)
    have hgr := grown 0 (by simp) (Value.ownBlock (.slice none 0 0))
    simp only [List.map_nil, List.length_nil, Nat.zero_add] at hgr
    have e0 : (#[] : Array Value) ++ [iv64 k].toArray = [iv64 k].toArray := by simp
    exact ⟨_, _, hr, by rw [e0] at hgr; exact hgr.1, by rw [e0] at hgr; exact hgr.2, .inr rfl⟩
  · have hlm : (l ++ m).length = l.length + m.length := by simp
    by_cases hroom : l.length + 1 ≤ cap
    · have hr := run_append_room (P := P) w t ty e i ht hi g l.length cap _ h3 a 1 c [iv64 k] (by simp [hsz]) hnews (by simp [iv64, Value.oneCell']) hroom (by simp [hsz]; omega)
      refine ⟨_, _, hr, .inr ⟨g, cap, m.drop 1, by simp, h2, ?_, by simp; omega, h5⟩, ⟨rfl, rfl, rfl, by simp, fun k _ hk => setRow_other w g k _ (fun e => hk (by simp [Value.ownBlock, e]))⟩, .inl rfl⟩
      refine (setRow_heap w g _ _ e _ h3).trans ?_
      congr 3
      simp [hsz, List.take_append, List.drop_append, List.map_drop]
    · have holds : ∀ j u, (l.map iv64)[j]? = some u → w.cell? ((⟨g, 0, none⟩ : Addr).add j) = some u := fun j u hj => by
        rw [addr_add, cell_of_row w g _ _ e _ h3]
        simp only [Nat.zero_add, List.getElem?_toArray, List.map_append]
        rw [List.getElem?_append_left (by have := (List.getElem?_eq_some_iff.1 hj).1; exact this)]
        exact hj
      have hr := run_append_grow (P := P) w t ty e i z ht hi hz ⟨g, 0, none⟩ l.length cap (l.map iv64) (by simp [hsz]) holds a 1 c [iv64 k] (by simp [hsz]) hnews (by omega) (by omega) (growslice_fits (by omega) (by rw [hby]; omega))
      have hgr := grown cap (by omega) (Value.ownBlock (.slice (some ⟨g, 0, none⟩) l.length cap))
      exact ⟨_, _, hr, hgr.1, hgr.2, .inr rfl⟩
end Go.Proofs.YtcfflflcbacapaaGreat.Ev
