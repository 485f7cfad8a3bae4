/- What is true of the program as a whole, each fact by itself. -/
import Derived.Test.YtelciiooegiikaaRows
import Derived.JoinedOf
import Derived.OpenShut
namespace Go.Proofs.Ytelciiooegiikaa
open Go.ChangeShapes Go.WideShapes
set_option linter.unusedSimpArgs false
set_option linter.unusedVariables false
theorem and_i {a b : Bool} (h : a = true) (k : b = true) : (a && b) = true := by rw [h, k]; rfl
theorem fLaid : laidOutB Try.pinned.checked.prog = true := by kernel_rfl
theorem fMaps : mapsRowed Try.pinned.checked.prog = true := by kernel_rfl
theorem fHeard : Try.pinned.checked.prog.stopsHeard = true := by kernel_rfl
theorem fEnter : Try.pinned.checked.prog.mayEnter = true := by kernel_rfl
theorem fLifts : Try.pinned.checked.prog.liftsFinal = false := by kernel_rfl
end Go.Proofs.Ytelciiooegiikaa
