/- What a state that may be is like: its parts. -/
import Derived.Test.YtijpmidnclbhpaaPlC
namespace Go.Proofs.Ytijpmidnclbhpaa
open Go.RowKit
set_option maxHeartbeats 4000000
set_option maxRecDepth 20000
attribute [local irreducible] SW SWL SWLn SWD SEcall SEcallv SDv SE SO1 SOg ACalls ACallv Wk EndV
set_option linter.unusedSimpArgs false
set_option linter.unusedVariables false
theorem may_parts {s : SttD} (h : mayF s = true) : (∀ i, i < s.vers.length → mVer s i = false) ∧ (∀ i, i < s.ups.length → mUp s i = false) ∧ SecOk (allSec s) ∧ (∀ k, k < s.bkts.length → mBkt s.bkts k = false) ∧ mNum s = false := by
  unfold mayF at h
  simp only [Bool.and_eq_true, none_iff, Bool.not_eq_true'] at h
  exact ⟨h.2.2.2.1, h.2.2.2.2.1, sec_iff.2 h.2.2.2.2.2.2, h.2.2.1, h.1⟩
theorem may_next {s : SttD} (h : mNum s = false) : 1 ≤ s.next ∧ s.next ≤ 1048576 := by
  unfold mNum at h
  simp only [Bool.or_eq_false_iff, Bool.not_eq_false', inR_iff] at h
  exact h.1
end Go.Proofs.Ytijpmidnclbhpaa
