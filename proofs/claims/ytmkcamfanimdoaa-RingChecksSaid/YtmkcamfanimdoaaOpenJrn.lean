/- The arguments that are a journal. -/
import Derived.Test.YtmkcamfanimdoaaOpen
import Derived.Test.YtmkcamfanimdoaaRing
namespace Go.Proofs.Ytmkcamfanimdoaa
open Go.ChangeShapes Go.WideShapes Go.ChangeAt Go.RowKit
set_option linter.unusedVariables false

theorem list9 {α : Type} : ∀ {l : List α}, l.length = 9 → ∃ a b c d e f g h i, l = [a, b, c, d, e, f, g, h, i]
  | [a, b, c, d, e, f, g, h, i], _ => ⟨a, b, c, d, e, f, g, h, i, rfl⟩

theorem open_jrn {H : Type} {enc : TypeId × Value → H} {w : World} {base : Nat} {spare : Nat → Bool} {held : Bool} {v : Value} {d : DataW H} {p : List MemPlace}
    (h : DataW.Trod enc Try.prog w base spare held 28 v d p) : ∃ j : Jrn, v = j.val := by
  have hc : Try.prog.cellsOf 28 = 9 := by kernel_rfl
  have h3 : Try.prog.cellsOf 3 = 1 := by kernel_rfl
  obtain ⟨cs, xs, n, rfl, hl, hn, _, hf⟩ := struct_of_trod Try.underlying28 (by rw [hc]; decide) h
  obtain ⟨a0, a1, a2, a3, a4, a5, a6, a7, a8, rfl⟩ := list9 (hl.trans hc)
  have hn9 : xs.length = 9 := hn
  obtain ⟨a0, rfl, _⟩ := int_of_trod (xs := xs) (i := 0) Try.underlying3 (by omega) (by simpa [h3] using hf 0 _ rfl)
  obtain ⟨a1, rfl, _⟩ := int_of_trod (xs := xs) (i := 1) Try.underlying3 (by omega) (by simpa [h3] using hf 1 _ rfl)
  obtain ⟨a2, rfl, _⟩ := int_of_trod (xs := xs) (i := 2) Try.underlying3 (by omega) (by simpa [h3] using hf 2 _ rfl)
  obtain ⟨a3, rfl, _⟩ := int_of_trod (xs := xs) (i := 3) Try.underlying3 (by omega) (by simpa [h3] using hf 3 _ rfl)
  obtain ⟨a4, rfl, _⟩ := int_of_trod (xs := xs) (i := 4) Try.underlying3 (by omega) (by simpa [h3] using hf 4 _ rfl)
  obtain ⟨a5, rfl, _⟩ := int_of_trod (xs := xs) (i := 5) Try.underlying3 (by omega) (by simpa [h3] using hf 5 _ rfl)
  obtain ⟨a6, rfl, _⟩ := int_of_trod (xs := xs) (i := 6) Try.underlying3 (by omega) (by simpa [h3] using hf 6 _ rfl)
  obtain ⟨a7, rfl, _⟩ := int_of_trod (xs := xs) (i := 7) Try.underlying3 (by omega) (by simpa [h3] using hf 7 _ rfl)
  obtain ⟨a8, rfl, _⟩ := int_of_trod (xs := xs) (i := 8) Try.underlying3 (by omega) (by simpa [h3] using hf 8 _ rfl)
  exact ⟨⟨a0, a1, a2, a3, a4, a5, a6, a7, a8⟩, rfl⟩
end Go.Proofs.Ytmkcamfanimdoaa
