/- Frames of the ring as bytes; bytes cut into pieces of some size. CODED ELSEWHERE: icehouse/icehouseref.chunk -/
import Derived.Test.YtkcfnhfbdcnhjaaNum
import Derived.Test.YtkcfnhfbdcnhjaaChunk
import Derived.Test.YtkcfnhfbdcnhjaaTypes
namespace Go.Proofs.Ytkcfnhfbdcnhjaa
open Go.RowKit
set_option maxRecDepth 100000
end Go.Proofs.Ytkcfnhfbdcnhjaa
namespace Go.Proofs.Ytkcfnhfbdcnhjaa
open Go.RowKit
set_option maxHeartbeats 4000000
set_option maxRecDepth 20000
attribute [local irreducible] SW SWL SWLn SWD SEcall SEcallv SDv SE SO1 SOg ACalls ACallv Wk EndV
set_option linter.unusedSimpArgs false
set_option linter.unusedVariables false
def chS (sz : Nat) (b : List UInt8) (i : Nat) : List UInt8 := (b.drop (i * sz)).take sz
def frB (e n i : Int) (last : Bool) (b : List UInt8) : List UInt8 := [bigB e 4, bigB n 4, bigB i 1, bigB (bif last then 1 else 0) 1, bigB b.length 2, b].flatten
end Go.Proofs.Ytkcfnhfbdcnhjaa
