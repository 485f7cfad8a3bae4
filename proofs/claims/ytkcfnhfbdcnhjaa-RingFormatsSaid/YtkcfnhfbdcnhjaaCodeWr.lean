/- The code of functions, without its places in the text. -/
import Derived.Test.YtkcfnhfbdcnhjaaTypes
namespace Go.Proofs.Ytkcfnhfbdcnhjaa
open Go.RowKit
set_option maxRecDepth 100000
/-- icehouse_hot.first -/
def o43_1 : List SO := ((SO.mk (some 7) (.load 3 (.tmp 6)) none) :: (SO.mk (some 8) (.bin .mul 3 (.const (Value.int .i64 2)) (.tmp 7)) none) :: (SO.mk (some 9) (.bin .add 3 (.tmp 5) (.tmp 8)) none) :: (SO.mk (some 2) (.move (.tmp 9)) none) :: [])
theorem v43_1 (P : Program) (B : Nat) (T0 : List Nat) (r : Sto) (K : Fr → Loc → Prop) (a : Fr) (l : Loc) : SWL P B T0 r o43_1 K a l = SWL P B T0 r ((SO.mk (some 7) (.load 3 (.tmp 6)) none) :: (SO.mk (some 8) (.bin .mul 3 (.const (Value.int .i64 2)) (.tmp 7)) none) :: (SO.mk (some 9) (.bin .add 3 (.tmp 5) (.tmp 8)) none) :: (SO.mk (some 2) (.move (.tmp 9)) none) :: []) K a l := (rfl)
def c43_2 : SC := (.seq (.reg ((SO.mk (some 3) (.faddr 23 (.tmp 1) 0) none) :: (SO.mk (some 4) (.load 3 (.tmp 3)) none) :: (SO.mk (some 5) (.bin .add 3 (.const (Value.int .i64 2)) (.tmp 4)) none) :: (SO.mk (some 6) (.faddr 23 (.tmp 1) 1) none) :: o43_1)) (.keep [2] .ret))
theorem u43_2 (P : Program) (B : Nat) (T0 : List Nat) (r : Sto) (Q : Ex → Fr → Loc → Prop) (a : Fr) (l : Loc) : SW P B T0 r c43_2 Q a l = SW P B T0 r (.seq (.reg ((SO.mk (some 3) (.faddr 23 (.tmp 1) 0) none) :: (SO.mk (some 4) (.load 3 (.tmp 3)) none) :: (SO.mk (some 5) (.bin .add 3 (.const (Value.int .i64 2)) (.tmp 4)) none) :: (SO.mk (some 6) (.faddr 23 (.tmp 1) 1) none) :: o43_1)) (.keep [2] .ret)) Q a l := (rfl)
def c43 : SC := (.seq (.reg [SO.mk (some 1) (.box 23 (.tmp 0)) none, SO.mk (some 2) (.move (.const (Value.int .i64 0))) none]) (.keep [1] c43_2))
theorem c43_eq : annC Try.f43 = some c43 := by kernel_rfl
theorem r43 : Try.f43.results.toList = [.tmp 2] := by kernel_rfl
theorem e43 : enters Try.prog 43 = true := by kernel_rfl
end Go.Proofs.Ytkcfnhfbdcnhjaa
