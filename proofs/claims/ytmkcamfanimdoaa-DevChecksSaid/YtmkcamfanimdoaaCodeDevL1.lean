/- The code of functions, without its places in the text. -/
import Derived.Test.YtmkcamfanimdoaaTypes
namespace Go.Proofs.Ytmkcamfanimdoaa
open Go.RowKit
set_option maxRecDepth 100000
/-- icehouse_icehouselaw.DevChecks -/
def c6_1 : SC := (.seq (.reg [SO.mk (some 13) (.move (.tmp 5)) none, SO.mk (some 14) (.move (.tmp 6)) none, SO.mk (some 15) (.bin .eql 24 (.tmp 13) (.tmp 14)) none, SO.mk (some 4) (.move (.tmp 15)) none]) (.keep [4] .ret))
theorem u6_1 (P : Program) (B : Nat) (T0 : List Nat) (r : Sto) (Q : Ex → Fr → Loc → Prop) (a : Fr) (l : Loc) : SW P B T0 r c6_1 Q a l = SW P B T0 r (.seq (.reg [SO.mk (some 13) (.move (.tmp 5)) none, SO.mk (some 14) (.move (.tmp 6)) none, SO.mk (some 15) (.bin .eql 24 (.tmp 13) (.tmp 14)) none, SO.mk (some 4) (.move (.tmp 15)) none]) (.keep [4] .ret)) Q a l := (rfl)
def c6_2 : SC := (.seq (.reg [SO.mk (some 10) (.load 23 (.tmp 2)) none, SO.mk (some 11) (.load 35 (.tmp 3)) none, SO.mk (some 12) (.call 32 [(.tmp 10), (.tmp 11)]) none, SO.mk (some 6) (.move (.tmp 12)) none]) (.keep [5, 6] c6_1))
theorem u6_2 (P : Program) (B : Nat) (T0 : List Nat) (r : Sto) (Q : Ex → Fr → Loc → Prop) (a : Fr) (l : Loc) : SW P B T0 r c6_2 Q a l = SW P B T0 r (.seq (.reg [SO.mk (some 10) (.load 23 (.tmp 2)) none, SO.mk (some 11) (.load 35 (.tmp 3)) none, SO.mk (some 12) (.call 32 [(.tmp 10), (.tmp 11)]) none, SO.mk (some 6) (.move (.tmp 12)) none]) (.keep [5, 6] c6_1)) Q a l := (rfl)
def c6_3 : SC := (.seq (.reg [SO.mk (some 7) (.load 23 (.tmp 2)) none, SO.mk (some 8) (.load 35 (.tmp 3)) none, SO.mk (some 9) (.call 31 [(.tmp 7), (.tmp 8)]) none, SO.mk (some 5) (.move (.tmp 9)) none]) (.keep [2, 3, 5] c6_2))
theorem u6_3 (P : Program) (B : Nat) (T0 : List Nat) (r : Sto) (Q : Ex → Fr → Loc → Prop) (a : Fr) (l : Loc) : SW P B T0 r c6_3 Q a l = SW P B T0 r (.seq (.reg [SO.mk (some 7) (.load 23 (.tmp 2)) none, SO.mk (some 8) (.load 35 (.tmp 3)) none, SO.mk (some 9) (.call 31 [(.tmp 7), (.tmp 8)]) none, SO.mk (some 5) (.move (.tmp 9)) none]) (.keep [2, 3, 5] c6_2)) Q a l := (rfl)
def c6 : SC := (.seq (.reg [SO.mk (some 2) (.box 23 (.tmp 0)) none, SO.mk (some 3) (.box 35 (.tmp 1)) none, SO.mk (some 4) (.move (.const (Value.bool false))) none]) (.keep [2, 3] c6_3))
theorem c6_eq : annC Try.f6 = some c6 := by kernel_rfl
theorem r6 : Try.f6.results.toList = [.tmp 4] := by kernel_rfl
theorem e6 : enters Try.prog 6 = true := by kernel_rfl
end Go.Proofs.Ytmkcamfanimdoaa
