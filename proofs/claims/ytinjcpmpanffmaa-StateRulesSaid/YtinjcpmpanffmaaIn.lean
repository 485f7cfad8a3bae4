/- The reference's In. -/
import Derived.Test.YtinjcpmpanffmaaLib
import Derived.Test.YtinjcpmpanffmaaProg
namespace Go.Proofs.Ytinjcpmpanffmaa
open Go.RowKit
set_option linter.unusedVariables false

def inB (n l h : Int) : Bool := decide (l ≤ n) && decide (n ≤ h)

theorem two (x : Bool) : x = false ∨ x = true := by cases x <;> simp

theorem In_any (n l h : Int) (w : World) :
    Calls Try.prog 65 #[.int .i64 n, .int .i64 l, .int .i64 h] w fun e w' => e = .returned (.bool (inB n l h)) ∧ w = w' := by
  unfold inB
  by_cases h1 : l ≤ n <;> by_cases h2 : n ≤ h
  all_goals
    go_enter Try.func65, Try.ntmps65
    go_wp2
    all_goals (go_ret; exact ⟨by simp [*], rfl⟩)
end Go.Proofs.Ytinjcpmpanffmaa
