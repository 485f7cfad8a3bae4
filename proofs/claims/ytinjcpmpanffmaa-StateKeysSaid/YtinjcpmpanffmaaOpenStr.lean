/- An argument that is a string. -/
import Derived.Test.YtinjcpmpanffmaaOpen
import Derived.ChangeMaps5
namespace Go.Proofs.Ytinjcpmpanffmaa
open Go.ChangeShapes Go.WideShapes Go.ChangeAt Go.RowKit
set_option linter.unusedVariables false

theorem open_str {H : Type} {enc : TypeId × Value → H} {P : Program} {w : World} {base : Nat} {sp : Nat → Bool} {held : Bool} {r : Reach} {b0 : Nat} {t : TypeId} {v : Value} {d : DataW H} {p : List MemPlace} {ts : List TypeId} {ds : List (DataW H)}
    (ht : P.underlying t = some .string) (hval : Value.okWide P w r b0 t v) (h : DataW.Trod enc P w base sp held t v d p) (hz : (DataW.weightsEach P ts ds).all (· ≤ reachBytes) = true) {j : Nat} (hts : ts[j]? = some t) (hds : ds[j]? = some d) :
    ∃ s : ByteArray, v = .string s ∧ s.size ≤ 2 ^ 47 := by
  obtain ⟨s, hv, rfl, _, _⟩ := Go.ChangeMaps.open_string ht hval h
  refine ⟨s, hv, ?_⟩
  have h1 := sized_string hz hts hds
  have h2 := reachBytes_lt
  have h3 : s.data.toList.length = s.size := by rw [Array.length_toList]; rfl
  omega
end Go.Proofs.Ytinjcpmpanffmaa
