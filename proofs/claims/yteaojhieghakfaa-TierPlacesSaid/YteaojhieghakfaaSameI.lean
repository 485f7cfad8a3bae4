/- Numbers are the same as themselves. -/
import Derived.Test.YteaojhieghakfaaBase
import Derived.Test.YteaojhieghakfaaTypes
namespace Go.Proofs.Yteaojhieghakfaa
open Go.RowKit
set_option maxRecDepth 100000
end Go.Proofs.Yteaojhieghakfaa
namespace Go.Proofs.Yteaojhieghakfaa
open Go.RowKit
set_option maxHeartbeats 4000000
set_option maxRecDepth 20000
attribute [local irreducible] SW SWL SWLn SWD SEcall SEcallv SDv SE SO1 SOg ACalls ACallv Wk EndV
set_option linter.unusedSimpArgs false
set_option linter.unusedVariables false
end Go.Proofs.Yteaojhieghakfaa
