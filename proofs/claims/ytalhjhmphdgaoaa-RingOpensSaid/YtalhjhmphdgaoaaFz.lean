/- An own array that is only read from a call on; a copy of numbers. -/
import Derived.Test.YtalhjhmphdgaoaaBase
import Derived.Test.YtalhjhmphdgaoaaTypes
namespace Go.Proofs.Ytalhjhmphdgaoaa
open Go.RowKit
set_option maxRecDepth 100000
theorem e15 : enters Try.prog 15 = true := by kernel_rfl
end Go.Proofs.Ytalhjhmphdgaoaa
namespace Go.Proofs.Ytalhjhmphdgaoaa
open Go.RowKit
set_option maxHeartbeats 4000000
set_option maxRecDepth 20000
attribute [local irreducible] SW SWL SWLn SWD SEcall SEcallv SDv SE SO1 SOg ACalls ACallv Wk EndV
set_option linter.unusedSimpArgs false
set_option linter.unusedVariables false
end Go.Proofs.Ytalhjhmphdgaoaa
