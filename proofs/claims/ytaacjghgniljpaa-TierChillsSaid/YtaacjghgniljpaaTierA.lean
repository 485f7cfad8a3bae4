/- Tiers: prefixes, a bucket's rule, how old a version is. -/
import Derived.Test.YtaacjghgniljpaaQueue
import Derived.Test.YtaacjghgniljpaaMayH
import Derived.Test.YtaacjghgniljpaaTypes
namespace Go.Proofs.Ytaacjghgniljpaa
open Go.RowKit
set_option maxRecDepth 100000
end Go.Proofs.Ytaacjghgniljpaa
namespace Go.Proofs.Ytaacjghgniljpaa
open Go.RowKit
set_option maxHeartbeats 4000000
set_option maxRecDepth 20000
attribute [local irreducible] SW SWL SWLn SWD SEcall SEcallv SDv SE SO1 SOg ACalls ACallv Wk EndV
set_option linter.unusedSimpArgs false
set_option linter.unusedVariables false
end Go.Proofs.Ytaacjghgniljpaa
