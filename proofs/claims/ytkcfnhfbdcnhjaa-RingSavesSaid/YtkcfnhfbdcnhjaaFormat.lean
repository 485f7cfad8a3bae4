/- ring.Format and the reference's. -/
import Derived.Test.YtkcfnhfbdcnhjaaHand
import Derived.Test.YtkcfnhfbdcnhjaaNum
import Derived.Test.YtkcfnhfbdcnhjaaTypes
namespace Go.Proofs.Ytkcfnhfbdcnhjaa
open Go.RowKit
set_option maxRecDepth 100000
end Go.Proofs.Ytkcfnhfbdcnhjaa
namespace Go.Proofs.Ytkcfnhfbdcnhjaa
open Go.RowKit
set_option maxHeartbeats 4000000
set_option maxRecDepth 20000
attribute [local irreducible] SW SWL SWLn SWD SEcall SEcallv SDv SE SO1 SOg ACalls ACallv Wk EndV
set_option linter.unusedSimpArgs false
set_option linter.unusedVariables false
def j1 : JrnD := ⟨1, 1, 0, 0, 0, 1, 0, 1, 0⟩
def s1 (g : GeoD) (d : DevD) : DevD × Int := stepF g (d, 0) ⟨false, 0, []⟩
def s2 (g : GeoD) (d : DevD) : DevD × Int := stepF g (s1 g d) ⟨false, 1, superB j1⟩
def s3 (g : GeoD) (d : DevD) : DevD × Int := stepF g (s2 g d) ⟨true, 0, []⟩
theorem hand0 (g : GeoD) (d : DevD) : AO.box [I g.ring, I g.area, I g.hot, I g.volume, I g.volumes, .d (.ro (d.safe.map secRow)), .d (.ro (d.cache.map WrD.row)), .d (.ro (d.vols.map VolD.row)), I d.fuel, I 0] = handO g (d, 0) := rfl
attribute [local irreducible] superB handO runF s1 s2 s3 endR jEnd j1
end Go.Proofs.Ytkcfnhfbdcnhjaa
