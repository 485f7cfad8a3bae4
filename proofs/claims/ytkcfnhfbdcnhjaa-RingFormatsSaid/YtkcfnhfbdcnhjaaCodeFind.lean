/- The code of functions, without its places in the text. -/
import Derived.Test.YtkcfnhfbdcnhjaaTypes
namespace Go.Proofs.Ytkcfnhfbdcnhjaa
open Go.RowKit
set_option maxRecDepth 100000
/-- slices.IndexFunc_____byte___byte_ -/
def o86_1 : List SO := ((SO.mk (some 15) (.load 29 (.tmp 14)) none) :: (SO.mk (some 16) (.callv (.tmp 11) [(.tmp 15)]) none) :: [])
theorem v86_1 (P : Program) (B : Nat) (T0 : List Nat) (r : Sto) (K : Fr → Loc → Prop) (a : Fr) (l : Loc) : SWL P B T0 r o86_1 K a l = SWL P B T0 r ((SO.mk (some 15) (.load 29 (.tmp 14)) none) :: (SO.mk (some 16) (.callv (.tmp 11) [(.tmp 15)]) none) :: []) K a l := (rfl)
def c86_2 : SC := (.seq (.reg [SO.mk (some 17) (.move (.tmp 5)) none, SO.mk (some 4) (.move (.tmp 17)) none]) (.keep [4] .ret))
theorem u86_2 (P : Program) (B : Nat) (T0 : List Nat) (r : Sto) (Q : Ex → Fr → Loc → Prop) (a : Fr) (l : Loc) : SW P B T0 r c86_2 Q a l = SW P B T0 r (.seq (.reg [SO.mk (some 17) (.move (.tmp 5)) none, SO.mk (some 4) (.move (.tmp 17)) none]) (.keep [4] .ret)) Q a l := (rfl)
def c86_3 : SC := (.cond (.tmp 16) c86_2 .skip)
theorem u86_3 (P : Program) (B : Nat) (T0 : List Nat) (r : Sto) (Q : Ex → Fr → Loc → Prop) (a : Fr) (l : Loc) : SW P B T0 r c86_3 Q a l = SW P B T0 r (.cond (.tmp 16) c86_2 .skip) Q a l := (rfl)
def c86_4 : SC := (.seq (.reg ((SO.mk (some 11) (.move (.tmp 1)) none) :: (SO.mk (some 12) (.move (.tmp 0)) none) :: (SO.mk (some 13) (.move (.tmp 5)) none) :: (SO.mk (some 14) (.iaddr 24 (.tmp 12) (.tmp 13)) none) :: o86_1)) (.keep [16, 5, 8, 7, 0, 1] c86_3))
theorem u86_4 (P : Program) (B : Nat) (T0 : List Nat) (r : Sto) (Q : Ex → Fr → Loc → Prop) (a : Fr) (l : Loc) : SW P B T0 r c86_4 Q a l = SW P B T0 r (.seq (.reg ((SO.mk (some 11) (.move (.tmp 1)) none) :: (SO.mk (some 12) (.move (.tmp 0)) none) :: (SO.mk (some 13) (.move (.tmp 5)) none) :: (SO.mk (some 14) (.iaddr 24 (.tmp 12) (.tmp 13)) none) :: o86_1)) (.keep [16, 5, 8, 7, 0, 1] c86_3)) Q a l := (rfl)
def c86_5 : SC := (.reg [SO.mk (some 18) (.bin .add 3 (.tmp 8) (.const (Value.int .i64 1))) none, SO.mk (some 8) (.move (.tmp 18)) none])
theorem u86_5 (P : Program) (B : Nat) (T0 : List Nat) (r : Sto) (Q : Ex → Fr → Loc → Prop) (a : Fr) (l : Loc) : SW P B T0 r c86_5 Q a l = SW P B T0 r (.reg [SO.mk (some 18) (.bin .add 3 (.tmp 8) (.const (Value.int .i64 1))) none, SO.mk (some 8) (.move (.tmp 18)) none]) Q a l := (rfl)
def c86_6 : SC := (.seq (.block 1 (.seq (.reg [SO.mk (some 10) (.move (.tmp 8)) none, SO.mk (some 5) (.move (.tmp 10)) none]) (.keep [5, 8, 7, 0, 1] c86_4))) (.keep [8, 7, 0, 1] c86_5))
theorem u86_6 (P : Program) (B : Nat) (T0 : List Nat) (r : Sto) (Q : Ex → Fr → Loc → Prop) (a : Fr) (l : Loc) : SW P B T0 r c86_6 Q a l = SW P B T0 r (.seq (.block 1 (.seq (.reg [SO.mk (some 10) (.move (.tmp 8)) none, SO.mk (some 5) (.move (.tmp 10)) none]) (.keep [5, 8, 7, 0, 1] c86_4))) (.keep [8, 7, 0, 1] c86_5)) Q a l := (rfl)
def c86_7 : SC := (.seq (.cond (.tmp 9) .skip (.exit 0)) (.keep [8, 7, 0, 1] c86_6))
theorem u86_7 (P : Program) (B : Nat) (T0 : List Nat) (r : Sto) (Q : Ex → Fr → Loc → Prop) (a : Fr) (l : Loc) : SW P B T0 r c86_7 Q a l = SW P B T0 r (.seq (.cond (.tmp 9) .skip (.exit 0)) (.keep [8, 7, 0, 1] c86_6)) Q a l := (rfl)
def c86_8 : SC := (.seq (.reg [SO.mk (some 9) (.bin .lss 3 (.tmp 8) (.tmp 7)) none]) (.keep [9, 1, 0, 7, 8] c86_7))
theorem u86_8 (P : Program) (B : Nat) (T0 : List Nat) (r : Sto) (Q : Ex → Fr → Loc → Prop) (a : Fr) (l : Loc) : SW P B T0 r c86_8 Q a l = SW P B T0 r (.seq (.reg [SO.mk (some 9) (.bin .lss 3 (.tmp 8) (.tmp 7)) none]) (.keep [9, 1, 0, 7, 8] c86_7)) Q a l := (rfl)
def c86_9 : SC := (.block 0 (.loop (.keep [1, 0, 7, 8] c86_8)))
theorem u86_9 (P : Program) (B : Nat) (T0 : List Nat) (r : Sto) (Q : Ex → Fr → Loc → Prop) (a : Fr) (l : Loc) : SW P B T0 r c86_9 Q a l = SW P B T0 r (.block 0 (.loop (.keep [1, 0, 7, 8] c86_8))) Q a l := (rfl)
def c86_10 : SC := (.seq (.reg [SO.mk (some 4) (.move (.const (Value.int .i64 (-1)))) none]) (.keep [4] .ret))
theorem u86_10 (P : Program) (B : Nat) (T0 : List Nat) (r : Sto) (Q : Ex → Fr → Loc → Prop) (a : Fr) (l : Loc) : SW P B T0 r c86_10 Q a l = SW P B T0 r (.seq (.reg [SO.mk (some 4) (.move (.const (Value.int .i64 (-1)))) none]) (.keep [4] .ret)) Q a l := (rfl)
def c86_11 : SC := (.seq (.seq (.reg [SO.mk (some 6) (.move (.tmp 0)) none, SO.mk (some 7) (.len 24 (.tmp 6)) none, SO.mk (some 8) (.move (.const (Value.int .i64 0))) none]) (.keep [1, 0, 7, 8] c86_9)) (.keep [] c86_10))
theorem u86_11 (P : Program) (B : Nat) (T0 : List Nat) (r : Sto) (Q : Ex → Fr → Loc → Prop) (a : Fr) (l : Loc) : SW P B T0 r c86_11 Q a l = SW P B T0 r (.seq (.seq (.reg [SO.mk (some 6) (.move (.tmp 0)) none, SO.mk (some 7) (.len 24 (.tmp 6)) none, SO.mk (some 8) (.move (.const (Value.int .i64 0))) none]) (.keep [1, 0, 7, 8] c86_9)) (.keep [] c86_10)) Q a l := (rfl)
def c86 : SC := (.seq (.reg [SO.mk (some 4) (.move (.const (Value.int .i64 0))) none]) (.keep [1, 0] c86_11))
theorem c86_eq : annC Try.f86 = some c86 := by kernel_rfl
theorem r86 : Try.f86.results.toList = [.tmp 4] := by kernel_rfl
theorem e86 : enters Try.prog 86 = true := by kernel_rfl
/-- slices.ContainsFunc_____byte___byte_ -/
def c66_1 : SC := (.seq (.reg [SO.mk (some 5) (.move (.tmp 0)) none, SO.mk (some 6) (.move (.tmp 1)) none, SO.mk (some 7) (.call 86 [(.tmp 5), (.tmp 6)]) none, SO.mk (some 8) (.bin .geq 3 (.tmp 7) (.const (Value.int .i64 0))) none, SO.mk (some 4) (.move (.tmp 8)) none]) (.keep [4] .ret))
theorem u66_1 (P : Program) (B : Nat) (T0 : List Nat) (r : Sto) (Q : Ex → Fr → Loc → Prop) (a : Fr) (l : Loc) : SW P B T0 r c66_1 Q a l = SW P B T0 r (.seq (.reg [SO.mk (some 5) (.move (.tmp 0)) none, SO.mk (some 6) (.move (.tmp 1)) none, SO.mk (some 7) (.call 86 [(.tmp 5), (.tmp 6)]) none, SO.mk (some 8) (.bin .geq 3 (.tmp 7) (.const (Value.int .i64 0))) none, SO.mk (some 4) (.move (.tmp 8)) none]) (.keep [4] .ret)) Q a l := (rfl)
def c66 : SC := (.seq (.reg [SO.mk (some 4) (.move (.const (Value.bool false))) none]) (.keep [0, 1] c66_1))
theorem c66_eq : annC Try.f66 = some c66 := by kernel_rfl
theorem r66 : Try.f66.results.toList = [.tmp 4] := by kernel_rfl
theorem e66 : enters Try.prog 66 = true := by kernel_rfl
/-- slices.IndexFunc___icehouse_api.Write_icehouse_api.Write_ -/
def o87_1 : List SO := ((SO.mk (some 15) (.load 61 (.tmp 14)) none) :: (SO.mk (some 16) (.callv (.tmp 11) [(.tmp 15)]) none) :: [])
theorem v87_1 (P : Program) (B : Nat) (T0 : List Nat) (r : Sto) (K : Fr → Loc → Prop) (a : Fr) (l : Loc) : SWL P B T0 r o87_1 K a l = SWL P B T0 r ((SO.mk (some 15) (.load 61 (.tmp 14)) none) :: (SO.mk (some 16) (.callv (.tmp 11) [(.tmp 15)]) none) :: []) K a l := (rfl)
def c87_2 : SC := (.seq (.reg [SO.mk (some 17) (.move (.tmp 5)) none, SO.mk (some 4) (.move (.tmp 17)) none]) (.keep [4] .ret))
theorem u87_2 (P : Program) (B : Nat) (T0 : List Nat) (r : Sto) (Q : Ex → Fr → Loc → Prop) (a : Fr) (l : Loc) : SW P B T0 r c87_2 Q a l = SW P B T0 r (.seq (.reg [SO.mk (some 17) (.move (.tmp 5)) none, SO.mk (some 4) (.move (.tmp 17)) none]) (.keep [4] .ret)) Q a l := (rfl)
def c87_3 : SC := (.cond (.tmp 16) c87_2 .skip)
theorem u87_3 (P : Program) (B : Nat) (T0 : List Nat) (r : Sto) (Q : Ex → Fr → Loc → Prop) (a : Fr) (l : Loc) : SW P B T0 r c87_3 Q a l = SW P B T0 r (.cond (.tmp 16) c87_2 .skip) Q a l := (rfl)
def c87_4 : SC := (.seq (.reg ((SO.mk (some 11) (.move (.tmp 1)) none) :: (SO.mk (some 12) (.move (.tmp 0)) none) :: (SO.mk (some 13) (.move (.tmp 5)) none) :: (SO.mk (some 14) (.iaddr 25 (.tmp 12) (.tmp 13)) none) :: o87_1)) (.keep [16, 5, 8, 7, 0, 1] c87_3))
theorem u87_4 (P : Program) (B : Nat) (T0 : List Nat) (r : Sto) (Q : Ex → Fr → Loc → Prop) (a : Fr) (l : Loc) : SW P B T0 r c87_4 Q a l = SW P B T0 r (.seq (.reg ((SO.mk (some 11) (.move (.tmp 1)) none) :: (SO.mk (some 12) (.move (.tmp 0)) none) :: (SO.mk (some 13) (.move (.tmp 5)) none) :: (SO.mk (some 14) (.iaddr 25 (.tmp 12) (.tmp 13)) none) :: o87_1)) (.keep [16, 5, 8, 7, 0, 1] c87_3)) Q a l := (rfl)
def c87_5 : SC := (.reg [SO.mk (some 18) (.bin .add 3 (.tmp 8) (.const (Value.int .i64 1))) none, SO.mk (some 8) (.move (.tmp 18)) none])
theorem u87_5 (P : Program) (B : Nat) (T0 : List Nat) (r : Sto) (Q : Ex → Fr → Loc → Prop) (a : Fr) (l : Loc) : SW P B T0 r c87_5 Q a l = SW P B T0 r (.reg [SO.mk (some 18) (.bin .add 3 (.tmp 8) (.const (Value.int .i64 1))) none, SO.mk (some 8) (.move (.tmp 18)) none]) Q a l := (rfl)
def c87_6 : SC := (.seq (.block 1 (.seq (.reg [SO.mk (some 10) (.move (.tmp 8)) none, SO.mk (some 5) (.move (.tmp 10)) none]) (.keep [5, 8, 7, 0, 1] c87_4))) (.keep [8, 7, 0, 1] c87_5))
theorem u87_6 (P : Program) (B : Nat) (T0 : List Nat) (r : Sto) (Q : Ex → Fr → Loc → Prop) (a : Fr) (l : Loc) : SW P B T0 r c87_6 Q a l = SW P B T0 r (.seq (.block 1 (.seq (.reg [SO.mk (some 10) (.move (.tmp 8)) none, SO.mk (some 5) (.move (.tmp 10)) none]) (.keep [5, 8, 7, 0, 1] c87_4))) (.keep [8, 7, 0, 1] c87_5)) Q a l := (rfl)
def c87_7 : SC := (.seq (.cond (.tmp 9) .skip (.exit 0)) (.keep [8, 7, 0, 1] c87_6))
theorem u87_7 (P : Program) (B : Nat) (T0 : List Nat) (r : Sto) (Q : Ex → Fr → Loc → Prop) (a : Fr) (l : Loc) : SW P B T0 r c87_7 Q a l = SW P B T0 r (.seq (.cond (.tmp 9) .skip (.exit 0)) (.keep [8, 7, 0, 1] c87_6)) Q a l := (rfl)
def c87_8 : SC := (.seq (.reg [SO.mk (some 9) (.bin .lss 3 (.tmp 8) (.tmp 7)) none]) (.keep [9, 1, 0, 7, 8] c87_7))
theorem u87_8 (P : Program) (B : Nat) (T0 : List Nat) (r : Sto) (Q : Ex → Fr → Loc → Prop) (a : Fr) (l : Loc) : SW P B T0 r c87_8 Q a l = SW P B T0 r (.seq (.reg [SO.mk (some 9) (.bin .lss 3 (.tmp 8) (.tmp 7)) none]) (.keep [9, 1, 0, 7, 8] c87_7)) Q a l := (rfl)
def c87_9 : SC := (.block 0 (.loop (.keep [1, 0, 7, 8] c87_8)))
theorem u87_9 (P : Program) (B : Nat) (T0 : List Nat) (r : Sto) (Q : Ex → Fr → Loc → Prop) (a : Fr) (l : Loc) : SW P B T0 r c87_9 Q a l = SW P B T0 r (.block 0 (.loop (.keep [1, 0, 7, 8] c87_8))) Q a l := (rfl)
def c87_10 : SC := (.seq (.reg [SO.mk (some 4) (.move (.const (Value.int .i64 (-1)))) none]) (.keep [4] .ret))
theorem u87_10 (P : Program) (B : Nat) (T0 : List Nat) (r : Sto) (Q : Ex → Fr → Loc → Prop) (a : Fr) (l : Loc) : SW P B T0 r c87_10 Q a l = SW P B T0 r (.seq (.reg [SO.mk (some 4) (.move (.const (Value.int .i64 (-1)))) none]) (.keep [4] .ret)) Q a l := (rfl)
def c87_11 : SC := (.seq (.seq (.reg [SO.mk (some 6) (.move (.tmp 0)) none, SO.mk (some 7) (.len 25 (.tmp 6)) none, SO.mk (some 8) (.move (.const (Value.int .i64 0))) none]) (.keep [1, 0, 7, 8] c87_9)) (.keep [] c87_10))
theorem u87_11 (P : Program) (B : Nat) (T0 : List Nat) (r : Sto) (Q : Ex → Fr → Loc → Prop) (a : Fr) (l : Loc) : SW P B T0 r c87_11 Q a l = SW P B T0 r (.seq (.seq (.reg [SO.mk (some 6) (.move (.tmp 0)) none, SO.mk (some 7) (.len 25 (.tmp 6)) none, SO.mk (some 8) (.move (.const (Value.int .i64 0))) none]) (.keep [1, 0, 7, 8] c87_9)) (.keep [] c87_10)) Q a l := (rfl)
def c87 : SC := (.seq (.reg [SO.mk (some 4) (.move (.const (Value.int .i64 0))) none]) (.keep [1, 0] c87_11))
theorem c87_eq : annC Try.f87 = some c87 := by kernel_rfl
theorem r87 : Try.f87.results.toList = [.tmp 4] := by kernel_rfl
theorem e87 : enters Try.prog 87 = true := by kernel_rfl
/-- slices.ContainsFunc___icehouse_api.Write_icehouse_api.Write_ -/
def c68_1 : SC := (.seq (.reg [SO.mk (some 5) (.move (.tmp 0)) none, SO.mk (some 6) (.move (.tmp 1)) none, SO.mk (some 7) (.call 87 [(.tmp 5), (.tmp 6)]) none, SO.mk (some 8) (.bin .geq 3 (.tmp 7) (.const (Value.int .i64 0))) none, SO.mk (some 4) (.move (.tmp 8)) none]) (.keep [4] .ret))
theorem u68_1 (P : Program) (B : Nat) (T0 : List Nat) (r : Sto) (Q : Ex → Fr → Loc → Prop) (a : Fr) (l : Loc) : SW P B T0 r c68_1 Q a l = SW P B T0 r (.seq (.reg [SO.mk (some 5) (.move (.tmp 0)) none, SO.mk (some 6) (.move (.tmp 1)) none, SO.mk (some 7) (.call 87 [(.tmp 5), (.tmp 6)]) none, SO.mk (some 8) (.bin .geq 3 (.tmp 7) (.const (Value.int .i64 0))) none, SO.mk (some 4) (.move (.tmp 8)) none]) (.keep [4] .ret)) Q a l := (rfl)
def c68 : SC := (.seq (.reg [SO.mk (some 4) (.move (.const (Value.bool false))) none]) (.keep [0, 1] c68_1))
theorem c68_eq : annC Try.f68 = some c68 := by kernel_rfl
theorem r68 : Try.f68.results.toList = [.tmp 4] := by kernel_rfl
theorem e68 : enters Try.prog 68 = true := by kernel_rfl
/-- slices.IndexFunc___icehouse_api.Volume_icehouse_api.Volume_ -/
def o88_1 : List SO := ((SO.mk (some 15) (.load 65 (.tmp 14)) none) :: (SO.mk (some 16) (.callv (.tmp 11) [(.tmp 15)]) none) :: [])
theorem v88_1 (P : Program) (B : Nat) (T0 : List Nat) (r : Sto) (K : Fr → Loc → Prop) (a : Fr) (l : Loc) : SWL P B T0 r o88_1 K a l = SWL P B T0 r ((SO.mk (some 15) (.load 65 (.tmp 14)) none) :: (SO.mk (some 16) (.callv (.tmp 11) [(.tmp 15)]) none) :: []) K a l := (rfl)
def c88_2 : SC := (.seq (.reg [SO.mk (some 17) (.move (.tmp 5)) none, SO.mk (some 4) (.move (.tmp 17)) none]) (.keep [4] .ret))
theorem u88_2 (P : Program) (B : Nat) (T0 : List Nat) (r : Sto) (Q : Ex → Fr → Loc → Prop) (a : Fr) (l : Loc) : SW P B T0 r c88_2 Q a l = SW P B T0 r (.seq (.reg [SO.mk (some 17) (.move (.tmp 5)) none, SO.mk (some 4) (.move (.tmp 17)) none]) (.keep [4] .ret)) Q a l := (rfl)
def c88_3 : SC := (.cond (.tmp 16) c88_2 .skip)
theorem u88_3 (P : Program) (B : Nat) (T0 : List Nat) (r : Sto) (Q : Ex → Fr → Loc → Prop) (a : Fr) (l : Loc) : SW P B T0 r c88_3 Q a l = SW P B T0 r (.cond (.tmp 16) c88_2 .skip) Q a l := (rfl)
def c88_4 : SC := (.seq (.reg ((SO.mk (some 11) (.move (.tmp 1)) none) :: (SO.mk (some 12) (.move (.tmp 0)) none) :: (SO.mk (some 13) (.move (.tmp 5)) none) :: (SO.mk (some 14) (.iaddr 26 (.tmp 12) (.tmp 13)) none) :: o88_1)) (.keep [16, 5, 8, 7, 0, 1] c88_3))
theorem u88_4 (P : Program) (B : Nat) (T0 : List Nat) (r : Sto) (Q : Ex → Fr → Loc → Prop) (a : Fr) (l : Loc) : SW P B T0 r c88_4 Q a l = SW P B T0 r (.seq (.reg ((SO.mk (some 11) (.move (.tmp 1)) none) :: (SO.mk (some 12) (.move (.tmp 0)) none) :: (SO.mk (some 13) (.move (.tmp 5)) none) :: (SO.mk (some 14) (.iaddr 26 (.tmp 12) (.tmp 13)) none) :: o88_1)) (.keep [16, 5, 8, 7, 0, 1] c88_3)) Q a l := (rfl)
def c88_5 : SC := (.reg [SO.mk (some 18) (.bin .add 3 (.tmp 8) (.const (Value.int .i64 1))) none, SO.mk (some 8) (.move (.tmp 18)) none])
theorem u88_5 (P : Program) (B : Nat) (T0 : List Nat) (r : Sto) (Q : Ex → Fr → Loc → Prop) (a : Fr) (l : Loc) : SW P B T0 r c88_5 Q a l = SW P B T0 r (.reg [SO.mk (some 18) (.bin .add 3 (.tmp 8) (.const (Value.int .i64 1))) none, SO.mk (some 8) (.move (.tmp 18)) none]) Q a l := (rfl)
def c88_6 : SC := (.seq (.block 1 (.seq (.reg [SO.mk (some 10) (.move (.tmp 8)) none, SO.mk (some 5) (.move (.tmp 10)) none]) (.keep [5, 8, 7, 0, 1] c88_4))) (.keep [8, 7, 0, 1] c88_5))
theorem u88_6 (P : Program) (B : Nat) (T0 : List Nat) (r : Sto) (Q : Ex → Fr → Loc → Prop) (a : Fr) (l : Loc) : SW P B T0 r c88_6 Q a l = SW P B T0 r (.seq (.block 1 (.seq (.reg [SO.mk (some 10) (.move (.tmp 8)) none, SO.mk (some 5) (.move (.tmp 10)) none]) (.keep [5, 8, 7, 0, 1] c88_4))) (.keep [8, 7, 0, 1] c88_5)) Q a l := (rfl)
def c88_7 : SC := (.seq (.cond (.tmp 9) .skip (.exit 0)) (.keep [8, 7, 0, 1] c88_6))
theorem u88_7 (P : Program) (B : Nat) (T0 : List Nat) (r : Sto) (Q : Ex → Fr → Loc → Prop) (a : Fr) (l : Loc) : SW P B T0 r c88_7 Q a l = SW P B T0 r (.seq (.cond (.tmp 9) .skip (.exit 0)) (.keep [8, 7, 0, 1] c88_6)) Q a l := (rfl)
def c88_8 : SC := (.seq (.reg [SO.mk (some 9) (.bin .lss 3 (.tmp 8) (.tmp 7)) none]) (.keep [9, 1, 0, 7, 8] c88_7))
theorem u88_8 (P : Program) (B : Nat) (T0 : List Nat) (r : Sto) (Q : Ex → Fr → Loc → Prop) (a : Fr) (l : Loc) : SW P B T0 r c88_8 Q a l = SW P B T0 r (.seq (.reg [SO.mk (some 9) (.bin .lss 3 (.tmp 8) (.tmp 7)) none]) (.keep [9, 1, 0, 7, 8] c88_7)) Q a l := (rfl)
def c88_9 : SC := (.block 0 (.loop (.keep [1, 0, 7, 8] c88_8)))
theorem u88_9 (P : Program) (B : Nat) (T0 : List Nat) (r : Sto) (Q : Ex → Fr → Loc → Prop) (a : Fr) (l : Loc) : SW P B T0 r c88_9 Q a l = SW P B T0 r (.block 0 (.loop (.keep [1, 0, 7, 8] c88_8))) Q a l := (rfl)
def c88_10 : SC := (.seq (.reg [SO.mk (some 4) (.move (.const (Value.int .i64 (-1)))) none]) (.keep [4] .ret))
theorem u88_10 (P : Program) (B : Nat) (T0 : List Nat) (r : Sto) (Q : Ex → Fr → Loc → Prop) (a : Fr) (l : Loc) : SW P B T0 r c88_10 Q a l = SW P B T0 r (.seq (.reg [SO.mk (some 4) (.move (.const (Value.int .i64 (-1)))) none]) (.keep [4] .ret)) Q a l := (rfl)
def c88_11 : SC := (.seq (.seq (.reg [SO.mk (some 6) (.move (.tmp 0)) none, SO.mk (some 7) (.len 26 (.tmp 6)) none, SO.mk (some 8) (.move (.const (Value.int .i64 0))) none]) (.keep [1, 0, 7, 8] c88_9)) (.keep [] c88_10))
theorem u88_11 (P : Program) (B : Nat) (T0 : List Nat) (r : Sto) (Q : Ex → Fr → Loc → Prop) (a : Fr) (l : Loc) : SW P B T0 r c88_11 Q a l = SW P B T0 r (.seq (.seq (.reg [SO.mk (some 6) (.move (.tmp 0)) none, SO.mk (some 7) (.len 26 (.tmp 6)) none, SO.mk (some 8) (.move (.const (Value.int .i64 0))) none]) (.keep [1, 0, 7, 8] c88_9)) (.keep [] c88_10)) Q a l := (rfl)
def c88 : SC := (.seq (.reg [SO.mk (some 4) (.move (.const (Value.int .i64 0))) none]) (.keep [1, 0] c88_11))
theorem c88_eq : annC Try.f88 = some c88 := by kernel_rfl
theorem r88 : Try.f88.results.toList = [.tmp 4] := by kernel_rfl
theorem e88 : enters Try.prog 88 = true := by kernel_rfl
/-- slices.ContainsFunc___icehouse_api.Volume_icehouse_api.Volume_ -/
def c70_1 : SC := (.seq (.reg [SO.mk (some 5) (.move (.tmp 0)) none, SO.mk (some 6) (.move (.tmp 1)) none, SO.mk (some 7) (.call 88 [(.tmp 5), (.tmp 6)]) none, SO.mk (some 8) (.bin .geq 3 (.tmp 7) (.const (Value.int .i64 0))) none, SO.mk (some 4) (.move (.tmp 8)) none]) (.keep [4] .ret))
theorem u70_1 (P : Program) (B : Nat) (T0 : List Nat) (r : Sto) (Q : Ex → Fr → Loc → Prop) (a : Fr) (l : Loc) : SW P B T0 r c70_1 Q a l = SW P B T0 r (.seq (.reg [SO.mk (some 5) (.move (.tmp 0)) none, SO.mk (some 6) (.move (.tmp 1)) none, SO.mk (some 7) (.call 88 [(.tmp 5), (.tmp 6)]) none, SO.mk (some 8) (.bin .geq 3 (.tmp 7) (.const (Value.int .i64 0))) none, SO.mk (some 4) (.move (.tmp 8)) none]) (.keep [4] .ret)) Q a l := (rfl)
def c70 : SC := (.seq (.reg [SO.mk (some 4) (.move (.const (Value.bool false))) none]) (.keep [0, 1] c70_1))
theorem c70_eq : annC Try.f70 = some c70 := by kernel_rfl
theorem r70 : Try.f70.results.toList = [.tmp 4] := by kernel_rfl
theorem e70 : enters Try.prog 70 = true := by kernel_rfl
end Go.Proofs.Ytkcfnhfbdcnhjaa
