/- Numbers that fit, texts and lists that may be written. -/
import Derived.Test.YtijpmidnclbhpaaDoorStD
import Derived.Test.YtijpmidnclbhpaaDoorFindB
import Derived.Test.YtijpmidnclbhpaaDoorInB
import Derived.Test.YtijpmidnclbhpaaDoorNz
import Derived.Test.YtijpmidnclbhpaaDoorTypes
namespace Go.Proofs.YtijpmidnclbhpaaDoor
open Go.RowKit
set_option maxRecDepth 100000
end Go.Proofs.YtijpmidnclbhpaaDoor
namespace Go.Proofs.YtijpmidnclbhpaaDoor
open Go.RowKit
set_option maxHeartbeats 4000000
set_option maxRecDepth 20000
attribute [local irreducible] SW SWL SWLn SWD SEcall SEcallv SDv SE SO1 SOg ACalls ACallv Wk EndV
set_option linter.unusedSimpArgs false
set_option linter.unusedVariables false
theorem PureC.free {P : Program} {f : FuncId} {args : List AV} {v : AV} (h : PureC (fun _ => True) P f args v) : Pure P f args v := by
  unfold PureC at h
  unfold Pure
  exact fun B σ => h B σ trivial
end Go.Proofs.YtijpmidnclbhpaaDoor
