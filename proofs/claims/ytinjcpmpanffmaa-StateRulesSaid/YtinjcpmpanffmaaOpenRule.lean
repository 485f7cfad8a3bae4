/- The arguments that are a rule. -/
import Derived.Test.YtinjcpmpanffmaaFits
import Derived.Test.YtinjcpmpanffmaaRule
namespace Go.Proofs.Ytinjcpmpanffmaa
open Go.ChangeShapes Go.WideShapes Go.ChangeAt Go.RowKit
set_option linter.unusedVariables false

theorem list3 {α : Type} : ∀ {l : List α}, l.length = 3 → ∃ a b c, l = [a, b, c]
  | [a, b, c], _ => ⟨a, b, c, rfl⟩

theorem open_rule {H : Type} {enc : TypeId × Value → H} {w : World} {base : Nat} {spare : Nat → Bool} {held : Bool} {v : Value} {d : DataW H} {p : List MemPlace}
    (h : DataW.Trod enc Try.prog w base spare held 26 v d p) (hz : Fits Try.prog 26 d) : ∃ r : Rul, v = r.val ∧ r.prefix_.size ≤ 2 ^ 47 := by
  have hc : Try.prog.cellsOf 26 = 3 := by kernel_rfl
  have h3 : Try.prog.cellsOf 3 = 1 := by kernel_rfl
  have h4 : Try.prog.cellsOf 9 = 1 := by kernel_rfl
  obtain ⟨cs, xs, n, rfl, hl, hn, rfl, hf⟩ := struct_of_trod Try.underlying26 (by rw [hc]; decide) h
  obtain ⟨a, b, c, rfl⟩ := list3 (hl.trans hc)
  have hn3 : xs.length = 3 := hn
  obtain ⟨a, rfl, ha⟩ := str_of_trod (xs := xs) (i := 0) Try.underlying9 (by omega) (by simpa [h4] using hf 0 _ rfl)
  obtain ⟨b, rfl, _⟩ := int_of_trod (xs := xs) (i := 1) Try.underlying3 (by omega) (by simpa [h3] using hf 1 _ rfl)
  obtain ⟨c, rfl, _⟩ := int_of_trod (xs := xs) (i := 2) Try.underlying3 (by omega) (by simpa [h3] using hf 2 _ rfl)
  exact ⟨⟨a, b, c⟩, rfl, fits_string (fits_struct hz Try.underlying26 (i := 0) rfl ha)⟩
end Go.Proofs.Ytinjcpmpanffmaa
