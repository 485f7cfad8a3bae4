/- The law RingFormats, walked. -/
import Derived.Test.YtkcfnhfbdcnhjaaFormat
import Derived.Test.YtkcfnhfbdcnhjaaTypes
namespace Go.Proofs.Ytkcfnhfbdcnhjaa
open Go.RowKit
set_option maxRecDepth 100000
theorem r7 : Try.f7.results.toList = [.tmp 4] := by kernel_rfl
theorem e7 : enters Try.prog 7 = true := by kernel_rfl
end Go.Proofs.Ytkcfnhfbdcnhjaa
namespace Go.Proofs.Ytkcfnhfbdcnhjaa
open Go.RowKit
set_option maxHeartbeats 4000000
set_option maxRecDepth 20000
attribute [local irreducible] SW SWL SWLn SWD SEcall SEcallv SDv SE SO1 SOg ACalls ACallv Wk EndV
set_option linter.unusedSimpArgs false
set_option linter.unusedVariables false
theorem feqJ (a b c d e f g h i : Int) : feq Try.prog 20 47 [.d (.v (.int .i64 a)), .d (.v (.int .i64 b)), .d (.v (.int .i64 c)), .d (.v (.int .i64 d)), .d (.v (.int .i64 e)), .d (.v (.int .i64 f)), .d (.v (.int .i64 g)), .d (.v (.int .i64 h)), .d (.v (.int .i64 i))] [.d (.v (.int .i64 a)), .d (.v (.int .i64 b)), .d (.v (.int .i64 c)), .d (.v (.int .i64 d)), .d (.v (.int .i64 e)), .d (.v (.int .i64 f)), .d (.v (.int .i64 g)), .d (.v (.int .i64 h)), .d (.v (.int .i64 i))] = some (True, true) := by
  have h : ∃ q, feq Try.prog 20 47 [.d (.v (.int .i64 a)), .d (.v (.int .i64 b)), .d (.v (.int .i64 c)), .d (.v (.int .i64 d)), .d (.v (.int .i64 e)), .d (.v (.int .i64 f)), .d (.v (.int .i64 g)), .d (.v (.int .i64 h)), .d (.v (.int .i64 i))] [.d (.v (.int .i64 a)), .d (.v (.int .i64 b)), .d (.v (.int .i64 c)), .d (.v (.int .i64 d)), .d (.v (.int .i64 e)), .d (.v (.int .i64 f)), .d (.v (.int .i64 g)), .d (.v (.int .i64 h)), .d (.v (.int .i64 i))] = some (q, (a == a && (b == b && (c == c && (d == d && (e == e && (f == f && (g == g && (h == h && (i == i && true)))))))))) ∧ q := by
    refine ⟨IntKind.i64 = IntKind.i64 ∧ IntKind.i64 = IntKind.i64 ∧ IntKind.i64 = IntKind.i64 ∧ IntKind.i64 = IntKind.i64 ∧ IntKind.i64 = IntKind.i64 ∧ IntKind.i64 = IntKind.i64 ∧ IntKind.i64 = IntKind.i64 ∧ IntKind.i64 = IntKind.i64 ∧ IntKind.i64 = IntKind.i64 ∧ True, ?_, by simp⟩
    kernel_rfl
  obtain ⟨q, h1, h2⟩ := h
  rw [h1]
  have : q = True := eq_true h2
  simp [this]
end Go.Proofs.Ytkcfnhfbdcnhjaa
