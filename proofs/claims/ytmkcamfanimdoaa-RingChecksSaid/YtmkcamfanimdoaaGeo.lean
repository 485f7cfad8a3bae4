/- dev.CheckGeometry and the reference's GeometryFault: both answer 0 for a geometry that may be, 2 else. -/
import Derived.Test.YtmkcamfanimdoaaLib
import Derived.Test.YtmkcamfanimdoaaProg
namespace Go.Proofs.Ytmkcamfanimdoaa
open Go.RowKit
set_option linter.unusedVariables false

/-- is n from l to h? -/
def inB (n l h : Int) : Bool := decide (l ≤ n) && decide (n ≤ h)

structure Geo where
  ring : Int
  area : Int
  hot : Int
  volume : Int
  volumes : Int

def Geo.cells (g : Geo) : Array Value := #[.int .i64 g.ring, .int .i64 g.area, .int .i64 g.hot, .int .i64 g.volume, .int .i64 g.volumes]
def Geo.val (g : Geo) : Value := .agg g.cells

/-- may it be? -/
def Geo.ok (g : Geo) : Bool := inB g.ring 4 60 && inB g.area 2 80 && inB g.hot 2 200 && inB g.volume 100 4000 && inB g.volumes 1 8
def Geo.fault (g : Geo) : Int := if g.ok then 0 else 2

theorem five (a b c d e : Bool) : a = false ∨ (a = true ∧ b = false) ∨ (a = true ∧ b = true ∧ c = false) ∨ (a = true ∧ b = true ∧ c = true ∧ d = false) ∨ (a = true ∧ b = true ∧ c = true ∧ d = true ∧ e = false) ∨ (a = true ∧ b = true ∧ c = true ∧ d = true ∧ e = true) := by
  cases a <;> cases b <;> cases c <;> cases d <;> cases e <;> simp

theorem In_any (n l h : Int) (w : World) :
    Calls Try.prog 72 #[.int .i64 n, .int .i64 l, .int .i64 h] w fun e w' => e = .returned (.bool (inB n l h)) ∧ w = w' := by
  unfold inB
  by_cases h1 : l ≤ n <;> by_cases h2 : n ≤ h
  all_goals
    go_enter Try.func72, Try.ntmps72
    go_wp2
    all_goals (go_ret; exact ⟨by simp [*], rfl⟩)

set_option maxHeartbeats 800000 in
theorem GeometryFault_any (g : Geo) (w : World) :
    Calls Try.prog 25 #[g.val] w fun e w' => e = .returned (.int .i64 g.fault) ∧ Grow w w' := by
  obtain ⟨a, b, c, d, e⟩ := g
  rcases five (inB a 4 60) (inB b 2 80) (inB c 2 200) (inB d 100 4000) (inB e 1 8) with h1 | ⟨h1, h2⟩ | ⟨h1, h2, h3⟩ | ⟨h1, h2, h3, h4⟩ | ⟨h1, h2, h3, h4, h5⟩ | ⟨h1, h2, h3, h4, h5⟩
  all_goals
    unfold Geo.val Geo.cells
    go_enter Try.func25, Try.ntmps25
    go_wp2_with (go_at_call 72; refine (In_any _ _ _ _).mono ?_; rintro e w' ⟨rfl, rfl⟩)
    go_ret
    exact ⟨ret_int (by simp [Geo.fault, Geo.ok, *]), (Grow.refl _).alloc _⟩
end Go.Proofs.Ytmkcamfanimdoaa
