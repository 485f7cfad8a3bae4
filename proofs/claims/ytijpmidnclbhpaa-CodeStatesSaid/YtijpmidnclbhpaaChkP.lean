/- state.Check answers what the document says. -/
import Derived.Test.YtijpmidnclbhpaaPlC
import Derived.Test.YtijpmidnclbhpaaOpenSt
namespace Go.Proofs.Ytijpmidnclbhpaa
open Go.RowKit
set_option maxHeartbeats 4000000
set_option maxRecDepth 20000
attribute [local irreducible] SW SWL SWLn SWD SEcall SEcallv SDv SE SO1 SOg ACalls ACallv Wk EndV
set_option linter.unusedSimpArgs false
set_option linter.unusedVariables false
theorem fit_key {s : SttD} (h : s.wf) : ∀ k, k < s.vers.length → (KV.s2 s.vers[k]!.bkt s.vers[k]!.key).ok true := fun k hk => by
  have hm : s.vers[k]! ∈ s.vers := by simp [hk]
  have hv : (s.vers[k]!).wf := h.2.2.2.1.2 _ hm
  have e : maxLen = 2 ^ 63 - 1 := by unfold maxLen; rfl
  exact ⟨rfl, by show _ ≤ maxLen ∧ _ ≤ maxLen; rw [e]; have h1 := hv.2.1; have h2 := hv.2.2.1; omega⟩
theorem fit_pts {s : SttD} (h : s.fit) : ∀ k : Nat, (s.ups[k]!).parts.length ≤ 2 ^ 47 := fun k => by
  rcases Nat.lt_or_ge k s.ups.length with hk | hk
  · have := h.us k hk; omega
  · rw [getElem!_neg s.ups k (by omega)]; exact Nat.zero_le _
theorem check9_p (s : SttD) (hw : s.wf) : Pure Try.prog 11 [s.av] (I (bif mayF s then 0 else 9)) := by
  rw [← check_eq]
  exact check_p s (fit_key hw) (fit_pts (st_fit hw))
end Go.Proofs.Ytijpmidnclbhpaa
