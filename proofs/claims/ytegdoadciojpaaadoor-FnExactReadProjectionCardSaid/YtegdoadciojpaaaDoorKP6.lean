/-
  Both texts of projections are one; the law.
-/
import Derived.Test.YtegdoadciojpaaaDoorKP5
namespace Go.Proofs.YtegdoadciojpaaaDoor.Ev
open Go Go.RowKit
set_option maxRecDepth 100000
set_option linter.unusedVariables false
set_option linter.unusedSimpArgs false
theorem mk_size (l : List UInt8) : (⟨l.toArray⟩ : ByteArray).size = l.length := by simp [ByteArray.size]
theorem decB_size (n : I64) : (decB n).size ≤ 21 := by unfold decB; rw [mk_size]; exact Pp.itoa_len n.val n.bd.1 n.bd.2
theorem fit_of {a b : ByteArray} (h : a.size + b.size ≤ 1000) : fitB a b = true := by unfold fitB; simp only [decide_eq_true_eq]; omega
theorem sz (s : ByteArray) : s.data.toList.length = s.size := rfl
theorem ba_eta (s : ByteArray) : s = ⟨s.data.toList.toArray⟩ := by cases s; simp
theorem tx_one {s : ByteArray} (hs : s.size ≤ 10) (a b c d : I64) : iTx s a b c d = some (s8 s a b c d) ∧ sTx s a b c d = some (s8 s a b c d) := by
  have da := decB_size a
  have db := decB_size b
  have dc := decB_size c
  have dd := decB_size d
  have e1 : (s1 s).size ≤ 11 := by unfold s1; rw [ByteArray.size_append]; show _ + 1 ≤ 11; omega
  have e2 : (s2 s a).size ≤ 32 := by unfold s2; rw [ByteArray.size_append]; omega
  have e3 : (s3 s a).size ≤ 33 := by unfold s3; rw [ByteArray.size_append]; show _ + 1 ≤ 33; omega
  have e4 : (s4 s a b).size ≤ 54 := by unfold s4; rw [ByteArray.size_append]; omega
  have e5 : (s5 s a b).size ≤ 55 := by unfold s5; rw [ByteArray.size_append]; show _ + 1 ≤ 55; omega
  have e6 : (s6 s a b c).size ≤ 76 := by unfold s6; rw [ByteArray.size_append]; omega
  have e7 : (s7 s a b c).size ≤ 77 := by unfold s7; rw [ByteArray.size_append]; show _ + 1 ≤ 77; omega
  have e8 : (s8 s a b c d).size ≤ 98 := by unfold s8; rw [ByteArray.size_append]; omega
  have hj : joinB (parts s a b c d) sp1 = s8 s a b c d := by
    unfold joinB s8 s7 s6 s5 s4 s3 s2 s1
    rw [ba_eta s, ba_eta (decB a), ba_eta (decB b), ba_eta (decB c), ba_eta (decB d)]
    simp only [sp1, show (⟨#[32]⟩ : ByteArray) = ⟨[(32 : UInt8)].toArray⟩ from rfl, Pp.ba_mk]
    simp [Lib.join, parts, List.intercalate]
  refine ⟨?_, ?_⟩
  · unfold iTx
    have hl : (Lib.join ((parts s a b c d).map (·.data.toList)) sp1.data.toList).length = (s8 s a b c d).size := by
      rw [← hj]; unfold joinB; rw [mk_size]
    rw [hl, hj, show decide ((s8 s a b c d).size ≤ 140737488355328) = true by simp; omega]
    rfl
  · unfold sTx
    have f : sp1.size = 1 := rfl
    rw [fit_of (by omega), fit_of (by omega), fit_of (by omega), fit_of (by omega), fit_of (by omega), fit_of (by omega), fit_of (by omega), fit_of (by omega)]
    rfl
end Go.Proofs.YtegdoadciojpaaaDoor.Ev
