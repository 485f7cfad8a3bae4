/- dev.New and the reference's NewOf. -/
import Derived.Test.YtmkcamfanimdoaaOwn
import Derived.Test.YtmkcamfanimdoaaGeo2
namespace Go.Proofs.Ytmkcamfanimdoaa
open Go.RowKit
set_option linter.unusedVariables false

/-- how many sectors -/
def Geo.sectors (g : Geo) : Nat := (2 + g.ring + 2 * g.area + g.hot).toNat

theorem ok_bounds {g : Geo} (h : g.ok = true) : (4 ≤ g.ring ∧ g.ring ≤ 60) ∧ (2 ≤ g.area ∧ g.area ≤ 80) ∧ (2 ≤ g.hot ∧ g.hot ≤ 200) ∧ (100 ≤ g.volume ∧ g.volume ≤ 4000) ∧ (1 ≤ g.volumes ∧ g.volumes ≤ 8) := by
  simpa [Geo.ok, inB, and_assoc] using h

theorem sectors_any (g : Geo) (hok : g.ok = true) (w : World) :
    Calls Try.prog 73 #[g.val] w fun e w' => e = .returned (.int .i64 g.sectors) ∧ Grow w w' := by
  have hb := ok_bounds hok
  obtain ⟨a, b, c, d, e⟩ := g
  simp only at hb
  obtain ⟨⟨a1, a2⟩, ⟨b1, b2⟩, ⟨c1, c2⟩, _, _⟩ := hb
  unfold Geo.val Geo.cells
  go_enter Try.func73, Try.ntmps73
  go_wp2
  go_ret
  exact ⟨ret_int (by simp [Geo.sectors]; omega), (Grow.refl _).alloc _⟩

theorem sectorsOf_any (g : Geo) (hok : g.ok = true) (w : World) :
    Calls Try.prog 74 #[g.val] w fun e w' => e = .returned (.int .i64 g.sectors) ∧ Grow w w' := by
  have hb := ok_bounds hok
  obtain ⟨a, b, c, d, e⟩ := g
  simp only at hb
  obtain ⟨⟨a1, a2⟩, ⟨b1, b2⟩, ⟨c1, c2⟩, _, _⟩ := hb
  unfold Geo.val Geo.cells
  go_enter Try.func74, Try.ntmps74
  go_wp2
  go_ret
  exact ⟨ret_int (by simp [Geo.sectors]; omega), (Grow.refl _).alloc _⟩
end Go.Proofs.Ytmkcamfanimdoaa
