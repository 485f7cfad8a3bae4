/- The arguments that are a geometry. -/
import Derived.Test.YtmkcamfanimdoaaOpen
import Derived.Test.YtmkcamfanimdoaaGeo
namespace Go.Proofs.Ytmkcamfanimdoaa
open Go.ChangeShapes Go.WideShapes Go.ChangeAt Go.RowKit
set_option linter.unusedVariables false

theorem list5 {α : Type} : ∀ {l : List α}, l.length = 5 → ∃ a b c d e, l = [a, b, c, d, e]
  | [a, b, c, d, e], _ => ⟨a, b, c, d, e, rfl⟩

/-- all numbers are int's -/
def Geo.wf (g : Geo) : Prop := (Lit.int .i64 g.ring).wf = true ∧ (Lit.int .i64 g.area).wf = true ∧ (Lit.int .i64 g.hot).wf = true ∧ (Lit.int .i64 g.volume).wf = true ∧ (Lit.int .i64 g.volumes).wf = true

theorem open_geo {H : Type} {enc : TypeId × Value → H} {w : World} {base : Nat} {spare : Nat → Bool} {held : Bool} {v : Value} {d : DataW H} {p : List MemPlace}
    (h : DataW.Trod enc Try.prog w base spare held 23 v d p) : ∃ g : Geo, v = g.val ∧ g.wf := by
  have hc : Try.prog.cellsOf 23 = 5 := by kernel_rfl
  have h3 : Try.prog.cellsOf 3 = 1 := by kernel_rfl
  obtain ⟨cs, xs, n, rfl, hl, hn, _, hf⟩ := struct_of_trod Try.underlying23 (by rw [hc]; decide) h
  obtain ⟨a, b, c, d, e, rfl⟩ := list5 (hl.trans hc)
  have hn5 : xs.length = 5 := hn
  obtain ⟨a, rfl, ha⟩ := int_of_trod (xs := xs) (i := 0) Try.underlying3 (by omega) (by simpa [h3] using hf 0 _ rfl)
  obtain ⟨b, rfl, hb⟩ := int_of_trod (xs := xs) (i := 1) Try.underlying3 (by omega) (by simpa [h3] using hf 1 _ rfl)
  obtain ⟨c, rfl, hc⟩ := int_of_trod (xs := xs) (i := 2) Try.underlying3 (by omega) (by simpa [h3] using hf 2 _ rfl)
  obtain ⟨d, rfl, hd⟩ := int_of_trod (xs := xs) (i := 3) Try.underlying3 (by omega) (by simpa [h3] using hf 3 _ rfl)
  obtain ⟨e, rfl, he⟩ := int_of_trod (xs := xs) (i := 4) Try.underlying3 (by omega) (by simpa [h3] using hf 4 _ rfl)
  exact ⟨⟨a, b, c, d, e⟩, rfl, ha, hb, hc, hd, he⟩
end Go.Proofs.Ytmkcamfanimdoaa
