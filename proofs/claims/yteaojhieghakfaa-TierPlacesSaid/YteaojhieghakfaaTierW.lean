/- Tiers: the document's answer on what lives on each volume. -/
import Derived.Test.YteaojhieghakfaaTierV
import Derived.Test.YteaojhieghakfaaTypes
namespace Go.Proofs.Yteaojhieghakfaa
open Go.RowKit
set_option maxRecDepth 100000
end Go.Proofs.Yteaojhieghakfaa
namespace Go.Proofs.Yteaojhieghakfaa
open Go.RowKit
set_option maxHeartbeats 4000000
set_option maxRecDepth 20000
attribute [local irreducible] SW SWL SWLn SWD SEcall SEcallv SDv SE SO1 SOg ACalls ACallv Wk EndV
set_option linter.unusedSimpArgs false
set_option linter.unusedVariables false
structure VolOk (l : List VerD) : Prop where
  vol : ∀ k, k < l.length → onTape l[k]! = true → 0 ≤ l[k]!.vol ∧ l[k]!.vol < 8
  size : ∀ k, k < l.length → onTape l[k]! = true → 0 ≤ l[k]!.size ∧ l[k]!.size ≤ 600
  len : l.length ≤ 40
end Go.Proofs.Yteaojhieghakfaa
