/- Tiers: what lives on each volume. -/
import Derived.Test.YteaojhieghakfaaTierI
import Derived.Test.YteaojhieghakfaaChkP
import Derived.Test.YteaojhieghakfaaMayP
import Derived.Test.YteaojhieghakfaaTypes
namespace Go.Proofs.Yteaojhieghakfaa
open Go.RowKit
set_option maxRecDepth 100000
theorem r11 : Try.f11.results.toList = [.tmp 2, .tmp 3] := by kernel_rfl
end Go.Proofs.Yteaojhieghakfaa
namespace Go.Proofs.Yteaojhieghakfaa
open Go.RowKit
set_option maxHeartbeats 4000000
set_option maxRecDepth 20000
attribute [local irreducible] SW SWL SWLn SWD SEcall SEcallv SDv SE SO1 SOg ACalls ACallv Wk EndV
set_option linter.unusedSimpArgs false
set_option linter.unusedVariables false
def onTape (v : VerD) : Bool := v.tier == 2 || v.tier == 3
end Go.Proofs.Yteaojhieghakfaa
