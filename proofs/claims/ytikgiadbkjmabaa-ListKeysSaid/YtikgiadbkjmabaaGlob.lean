/- No package-level table is known. -/
import Derived.Test.YtikgiadbkjmabaaRegion
namespace Go.Proofs.Ytikgiadbkjmabaa
open Go.RowKit
set_option linter.unusedSimpArgs false
set_option linter.unusedVariables false
def globD:Option (Nat × Nat × Nat):=none
def globR:Nat → List Value:=fun _=>[]
theorem globR_one (i:Nat):∀ c ∈ globR i,c.oneCell' = true:=fun c hc=>by cases hc
end Go.Proofs.Ytikgiadbkjmabaa
