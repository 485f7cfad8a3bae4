/- Tiers: tier.Place and the document's. -/
import Derived.Test.YteaojhieghakfaaTierP
import Derived.Test.YteaojhieghakfaaSameI
import Derived.Test.YteaojhieghakfaaTypes
namespace Go.Proofs.Yteaojhieghakfaa
open Go.RowKit
set_option maxRecDepth 100000
theorem r8 : Try.f8.results.toList = [.tmp 10, .tmp 11] := by kernel_rfl
theorem r10 : Try.f10.results.toList = [.tmp 10, .tmp 11] := by kernel_rfl
end Go.Proofs.Yteaojhieghakfaa
namespace Go.Proofs.Yteaojhieghakfaa
open Go.RowKit
set_option maxHeartbeats 4000000
set_option maxRecDepth 20000
attribute [local irreducible] SW SWL SWLn SWD SEcall SEcallv SDv SE SO1 SOg ACalls ACallv Wk EndV
set_option linter.unusedSimpArgs false
set_option linter.unusedVariables false
end Go.Proofs.Yteaojhieghakfaa
