/- Names below a bound. -/
import Derived.Test.YtikgiadbkjmabaaBase
namespace Go.Proofs.Ytikgiadbkjmabaa
open Go.RowKit
set_option maxHeartbeats 4000000
set_option maxRecDepth 20000
attribute [local irreducible] SW OSW SWL SWLn SWD SEcall SEcallv SDv SE SO1 SOg ACalls ACallv Wk EndV
set_option linter.unusedSimpArgs false
set_option linter.unusedVariables false
theorem nbF {m B:Nat} (h:m < B) (s:Nat):(m = B + s) = False:=by simp;omega
theorem nbF' {m B:Nat} (h:m < B) (s:Nat):(B + s = m) = False:=by simp;omega
theorem nbL {m B:Nat} (h:m < B):(B ≤ m) = False:=by simp;omega
end Go.Proofs.Ytikgiadbkjmabaa
