/- The room that a piece has on disk: the sectors asked for. -/
import Derived.Test.YtkcfnhfbdcnhjaaBase
import Derived.Test.YtkcfnhfbdcnhjaaTypes
namespace Go.Proofs.Ytkcfnhfbdcnhjaa
open Go.RowKit
set_option maxRecDepth 100000
/-- icehouse_icehouseref.chunks -/
def o57_1 : List SO := ((SO.mk (some 9) (.move (.tmp 1)) none) :: (SO.mk (some 10) (.bin .quo 3 (.tmp 8) (.tmp 9)) none) :: (SO.mk (some 4) (.move (.tmp 10)) none) :: [])
theorem v57_1 (P : Program) (B : Nat) (T0 : List Nat) (r : Sto) (K : Fr → Loc → Prop) (a : Fr) (l : Loc) : SWL P B T0 r o57_1 K a l = SWL P B T0 r ((SO.mk (some 9) (.move (.tmp 1)) none) :: (SO.mk (some 10) (.bin .quo 3 (.tmp 8) (.tmp 9)) none) :: (SO.mk (some 4) (.move (.tmp 10)) none) :: []) K a l := (rfl)
def c57_2 : SC := (.seq (.reg ((SO.mk (some 5) (.move (.tmp 0)) none) :: (SO.mk (some 6) (.move (.tmp 1)) none) :: (SO.mk (some 7) (.bin .add 3 (.tmp 5) (.tmp 6)) none) :: (SO.mk (some 8) (.bin .sub 3 (.tmp 7) (.const (Value.int .i64 1))) none) :: o57_1)) (.keep [4] .ret))
theorem u57_2 (P : Program) (B : Nat) (T0 : List Nat) (r : Sto) (Q : Ex → Fr → Loc → Prop) (a : Fr) (l : Loc) : SW P B T0 r c57_2 Q a l = SW P B T0 r (.seq (.reg ((SO.mk (some 5) (.move (.tmp 0)) none) :: (SO.mk (some 6) (.move (.tmp 1)) none) :: (SO.mk (some 7) (.bin .add 3 (.tmp 5) (.tmp 6)) none) :: (SO.mk (some 8) (.bin .sub 3 (.tmp 7) (.const (Value.int .i64 1))) none) :: o57_1)) (.keep [4] .ret)) Q a l := (rfl)
def c57 : SC := (.seq (.reg [SO.mk (some 4) (.move (.const (Value.int .i64 0))) none]) (.keep [0, 1] c57_2))
theorem c57_eq : annC Try.f57 = some c57 := by kernel_rfl
theorem r57 : Try.f57.results.toList = [.tmp 4] := by kernel_rfl
theorem e57 : enters Try.prog 57 = true := by kernel_rfl
end Go.Proofs.Ytkcfnhfbdcnhjaa
namespace Go.Proofs.Ytkcfnhfbdcnhjaa
open Go.RowKit
set_option maxHeartbeats 4000000
set_option maxRecDepth 20000
attribute [local irreducible] SW SWL SWLn SWD SEcall SEcallv SDv SE SO1 SOg ACalls ACallv Wk EndV
set_option linter.unusedSimpArgs false
set_option linter.unusedVariables false
end Go.Proofs.Ytkcfnhfbdcnhjaa
