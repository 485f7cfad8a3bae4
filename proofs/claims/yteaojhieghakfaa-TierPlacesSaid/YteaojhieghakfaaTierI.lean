/- Tiers: the versions for which something holds. -/
import Derived.Test.YteaojhieghakfaaQueue
import Derived.Test.YteaojhieghakfaaMayH
namespace Go.Proofs.Yteaojhieghakfaa
open Go.RowKit
theorem Pure.clo {P : Program} {f : FuncId} {args : List AV} {v : AV} (he : enters P f = true) (h : Pure P f args v) : Purev P (.clo (.func f) [] []) args v := by
  unfold Pure at h
  unfold Purev
  intro B σ
  have h' := h B σ
  unfold ACallv
  exact ⟨he, by simpa using h'⟩
set_option maxHeartbeats 4000000
set_option maxRecDepth 20000
attribute [local irreducible] SW SWL SWLn SWD SEcall SEcallv SDv SE SO1 SOg ACalls ACallv Wk EndV
set_option linter.unusedSimpArgs false
set_option linter.unusedVariables false
end Go.Proofs.Yteaojhieghakfaa
