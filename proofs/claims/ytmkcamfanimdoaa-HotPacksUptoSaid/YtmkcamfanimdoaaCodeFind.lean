/- The code of functions, without its places in the text. -/
import Derived.Test.YtmkcamfanimdoaaTypes
namespace Go.Proofs.Ytmkcamfanimdoaa
open Go.RowKit
set_option maxRecDepth 100000
/-- slices.IndexFunc_____byte___byte_ -/
def o112_1 : List SO := ((SO.mk (some 15) (.load 42 (.tmp 14)) none) :: (SO.mk (some 16) (.callv (.tmp 11) [(.tmp 15)]) none) :: [])
theorem v112_1 (P : Program) (B : Nat) (T0 : List Nat) (r : Sto) (K : Fr → Loc → Prop) (a : Fr) (l : Loc) : SWL P B T0 r o112_1 K a l = SWL P B T0 r ((SO.mk (some 15) (.load 42 (.tmp 14)) none) :: (SO.mk (some 16) (.callv (.tmp 11) [(.tmp 15)]) none) :: []) K a l := (rfl)
def c112_2 : SC := (.seq (.reg [SO.mk (some 17) (.move (.tmp 5)) none, SO.mk (some 4) (.move (.tmp 17)) none]) (.keep [4] .ret))
theorem u112_2 (P : Program) (B : Nat) (T0 : List Nat) (r : Sto) (Q : Ex → Fr → Loc → Prop) (a : Fr) (l : Loc) : SW P B T0 r c112_2 Q a l = SW P B T0 r (.seq (.reg [SO.mk (some 17) (.move (.tmp 5)) none, SO.mk (some 4) (.move (.tmp 17)) none]) (.keep [4] .ret)) Q a l := (rfl)
def c112_3 : SC := (.cond (.tmp 16) c112_2 .skip)
theorem u112_3 (P : Program) (B : Nat) (T0 : List Nat) (r : Sto) (Q : Ex → Fr → Loc → Prop) (a : Fr) (l : Loc) : SW P B T0 r c112_3 Q a l = SW P B T0 r (.cond (.tmp 16) c112_2 .skip) Q a l := (rfl)
def c112_4 : SC := (.seq (.reg ((SO.mk (some 11) (.move (.tmp 1)) none) :: (SO.mk (some 12) (.move (.tmp 0)) none) :: (SO.mk (some 13) (.move (.tmp 5)) none) :: (SO.mk (some 14) (.iaddr 31 (.tmp 12) (.tmp 13)) none) :: o112_1)) (.keep [16, 5, 8, 7, 0, 1] c112_3))
theorem u112_4 (P : Program) (B : Nat) (T0 : List Nat) (r : Sto) (Q : Ex → Fr → Loc → Prop) (a : Fr) (l : Loc) : SW P B T0 r c112_4 Q a l = SW P B T0 r (.seq (.reg ((SO.mk (some 11) (.move (.tmp 1)) none) :: (SO.mk (some 12) (.move (.tmp 0)) none) :: (SO.mk (some 13) (.move (.tmp 5)) none) :: (SO.mk (some 14) (.iaddr 31 (.tmp 12) (.tmp 13)) none) :: o112_1)) (.keep [16, 5, 8, 7, 0, 1] c112_3)) Q a l := (rfl)
def c112_5 : SC := (.reg [SO.mk (some 18) (.bin .add 3 (.tmp 8) (.const (Value.int .i64 1))) none, SO.mk (some 8) (.move (.tmp 18)) none])
theorem u112_5 (P : Program) (B : Nat) (T0 : List Nat) (r : Sto) (Q : Ex → Fr → Loc → Prop) (a : Fr) (l : Loc) : SW P B T0 r c112_5 Q a l = SW P B T0 r (.reg [SO.mk (some 18) (.bin .add 3 (.tmp 8) (.const (Value.int .i64 1))) none, SO.mk (some 8) (.move (.tmp 18)) none]) Q a l := (rfl)
def c112_6 : SC := (.seq (.block 1 (.seq (.reg [SO.mk (some 10) (.move (.tmp 8)) none, SO.mk (some 5) (.move (.tmp 10)) none]) (.keep [5, 8, 7, 0, 1] c112_4))) (.keep [8, 7, 0, 1] c112_5))
theorem u112_6 (P : Program) (B : Nat) (T0 : List Nat) (r : Sto) (Q : Ex → Fr → Loc → Prop) (a : Fr) (l : Loc) : SW P B T0 r c112_6 Q a l = SW P B T0 r (.seq (.block 1 (.seq (.reg [SO.mk (some 10) (.move (.tmp 8)) none, SO.mk (some 5) (.move (.tmp 10)) none]) (.keep [5, 8, 7, 0, 1] c112_4))) (.keep [8, 7, 0, 1] c112_5)) Q a l := (rfl)
def c112_7 : SC := (.seq (.cond (.tmp 9) .skip (.exit 0)) (.keep [8, 7, 0, 1] c112_6))
theorem u112_7 (P : Program) (B : Nat) (T0 : List Nat) (r : Sto) (Q : Ex → Fr → Loc → Prop) (a : Fr) (l : Loc) : SW P B T0 r c112_7 Q a l = SW P B T0 r (.seq (.cond (.tmp 9) .skip (.exit 0)) (.keep [8, 7, 0, 1] c112_6)) Q a l := (rfl)
def c112_8 : SC := (.seq (.reg [SO.mk (some 9) (.bin .lss 3 (.tmp 8) (.tmp 7)) none]) (.keep [9, 1, 0, 7, 8] c112_7))
theorem u112_8 (P : Program) (B : Nat) (T0 : List Nat) (r : Sto) (Q : Ex → Fr → Loc → Prop) (a : Fr) (l : Loc) : SW P B T0 r c112_8 Q a l = SW P B T0 r (.seq (.reg [SO.mk (some 9) (.bin .lss 3 (.tmp 8) (.tmp 7)) none]) (.keep [9, 1, 0, 7, 8] c112_7)) Q a l := (rfl)
def c112_9 : SC := (.block 0 (.loop (.keep [1, 0, 7, 8] c112_8)))
theorem u112_9 (P : Program) (B : Nat) (T0 : List Nat) (r : Sto) (Q : Ex → Fr → Loc → Prop) (a : Fr) (l : Loc) : SW P B T0 r c112_9 Q a l = SW P B T0 r (.block 0 (.loop (.keep [1, 0, 7, 8] c112_8))) Q a l := (rfl)
def c112_10 : SC := (.seq (.reg [SO.mk (some 4) (.move (.const (Value.int .i64 (-1)))) none]) (.keep [4] .ret))
theorem u112_10 (P : Program) (B : Nat) (T0 : List Nat) (r : Sto) (Q : Ex → Fr → Loc → Prop) (a : Fr) (l : Loc) : SW P B T0 r c112_10 Q a l = SW P B T0 r (.seq (.reg [SO.mk (some 4) (.move (.const (Value.int .i64 (-1)))) none]) (.keep [4] .ret)) Q a l := (rfl)
def c112_11 : SC := (.seq (.seq (.reg [SO.mk (some 6) (.move (.tmp 0)) none, SO.mk (some 7) (.len 31 (.tmp 6)) none, SO.mk (some 8) (.move (.const (Value.int .i64 0))) none]) (.keep [1, 0, 7, 8] c112_9)) (.keep [] c112_10))
theorem u112_11 (P : Program) (B : Nat) (T0 : List Nat) (r : Sto) (Q : Ex → Fr → Loc → Prop) (a : Fr) (l : Loc) : SW P B T0 r c112_11 Q a l = SW P B T0 r (.seq (.seq (.reg [SO.mk (some 6) (.move (.tmp 0)) none, SO.mk (some 7) (.len 31 (.tmp 6)) none, SO.mk (some 8) (.move (.const (Value.int .i64 0))) none]) (.keep [1, 0, 7, 8] c112_9)) (.keep [] c112_10)) Q a l := (rfl)
def c112 : SC := (.seq (.reg [SO.mk (some 4) (.move (.const (Value.int .i64 0))) none]) (.keep [1, 0] c112_11))
theorem c112_eq : annC Try.f112 = some c112 := by kernel_rfl
theorem r112 : Try.f112.results.toList = [.tmp 4] := by kernel_rfl
theorem e112 : enters Try.prog 112 = true := by kernel_rfl
/-- slices.ContainsFunc_____byte___byte_ -/
def c75_1 : SC := (.seq (.reg [SO.mk (some 5) (.move (.tmp 0)) none, SO.mk (some 6) (.move (.tmp 1)) none, SO.mk (some 7) (.call 112 [(.tmp 5), (.tmp 6)]) none, SO.mk (some 8) (.bin .geq 3 (.tmp 7) (.const (Value.int .i64 0))) none, SO.mk (some 4) (.move (.tmp 8)) none]) (.keep [4] .ret))
theorem u75_1 (P : Program) (B : Nat) (T0 : List Nat) (r : Sto) (Q : Ex → Fr → Loc → Prop) (a : Fr) (l : Loc) : SW P B T0 r c75_1 Q a l = SW P B T0 r (.seq (.reg [SO.mk (some 5) (.move (.tmp 0)) none, SO.mk (some 6) (.move (.tmp 1)) none, SO.mk (some 7) (.call 112 [(.tmp 5), (.tmp 6)]) none, SO.mk (some 8) (.bin .geq 3 (.tmp 7) (.const (Value.int .i64 0))) none, SO.mk (some 4) (.move (.tmp 8)) none]) (.keep [4] .ret)) Q a l := (rfl)
def c75 : SC := (.seq (.reg [SO.mk (some 4) (.move (.const (Value.bool false))) none]) (.keep [0, 1] c75_1))
theorem c75_eq : annC Try.f75 = some c75 := by kernel_rfl
theorem r75 : Try.f75.results.toList = [.tmp 4] := by kernel_rfl
theorem e75 : enters Try.prog 75 = true := by kernel_rfl
/-- slices.IndexFunc___icehouse_api.Write_icehouse_api.Write_ -/
def o113_1 : List SO := ((SO.mk (some 15) (.load 83 (.tmp 14)) none) :: (SO.mk (some 16) (.callv (.tmp 11) [(.tmp 15)]) none) :: [])
theorem v113_1 (P : Program) (B : Nat) (T0 : List Nat) (r : Sto) (K : Fr → Loc → Prop) (a : Fr) (l : Loc) : SWL P B T0 r o113_1 K a l = SWL P B T0 r ((SO.mk (some 15) (.load 83 (.tmp 14)) none) :: (SO.mk (some 16) (.callv (.tmp 11) [(.tmp 15)]) none) :: []) K a l := (rfl)
def c113_2 : SC := (.seq (.reg [SO.mk (some 17) (.move (.tmp 5)) none, SO.mk (some 4) (.move (.tmp 17)) none]) (.keep [4] .ret))
theorem u113_2 (P : Program) (B : Nat) (T0 : List Nat) (r : Sto) (Q : Ex → Fr → Loc → Prop) (a : Fr) (l : Loc) : SW P B T0 r c113_2 Q a l = SW P B T0 r (.seq (.reg [SO.mk (some 17) (.move (.tmp 5)) none, SO.mk (some 4) (.move (.tmp 17)) none]) (.keep [4] .ret)) Q a l := (rfl)
def c113_3 : SC := (.cond (.tmp 16) c113_2 .skip)
theorem u113_3 (P : Program) (B : Nat) (T0 : List Nat) (r : Sto) (Q : Ex → Fr → Loc → Prop) (a : Fr) (l : Loc) : SW P B T0 r c113_3 Q a l = SW P B T0 r (.cond (.tmp 16) c113_2 .skip) Q a l := (rfl)
def c113_4 : SC := (.seq (.reg ((SO.mk (some 11) (.move (.tmp 1)) none) :: (SO.mk (some 12) (.move (.tmp 0)) none) :: (SO.mk (some 13) (.move (.tmp 5)) none) :: (SO.mk (some 14) (.iaddr 32 (.tmp 12) (.tmp 13)) none) :: o113_1)) (.keep [16, 5, 8, 7, 0, 1] c113_3))
theorem u113_4 (P : Program) (B : Nat) (T0 : List Nat) (r : Sto) (Q : Ex → Fr → Loc → Prop) (a : Fr) (l : Loc) : SW P B T0 r c113_4 Q a l = SW P B T0 r (.seq (.reg ((SO.mk (some 11) (.move (.tmp 1)) none) :: (SO.mk (some 12) (.move (.tmp 0)) none) :: (SO.mk (some 13) (.move (.tmp 5)) none) :: (SO.mk (some 14) (.iaddr 32 (.tmp 12) (.tmp 13)) none) :: o113_1)) (.keep [16, 5, 8, 7, 0, 1] c113_3)) Q a l := (rfl)
def c113_5 : SC := (.reg [SO.mk (some 18) (.bin .add 3 (.tmp 8) (.const (Value.int .i64 1))) none, SO.mk (some 8) (.move (.tmp 18)) none])
theorem u113_5 (P : Program) (B : Nat) (T0 : List Nat) (r : Sto) (Q : Ex → Fr → Loc → Prop) (a : Fr) (l : Loc) : SW P B T0 r c113_5 Q a l = SW P B T0 r (.reg [SO.mk (some 18) (.bin .add 3 (.tmp 8) (.const (Value.int .i64 1))) none, SO.mk (some 8) (.move (.tmp 18)) none]) Q a l := (rfl)
def c113_6 : SC := (.seq (.block 1 (.seq (.reg [SO.mk (some 10) (.move (.tmp 8)) none, SO.mk (some 5) (.move (.tmp 10)) none]) (.keep [5, 8, 7, 0, 1] c113_4))) (.keep [8, 7, 0, 1] c113_5))
theorem u113_6 (P : Program) (B : Nat) (T0 : List Nat) (r : Sto) (Q : Ex → Fr → Loc → Prop) (a : Fr) (l : Loc) : SW P B T0 r c113_6 Q a l = SW P B T0 r (.seq (.block 1 (.seq (.reg [SO.mk (some 10) (.move (.tmp 8)) none, SO.mk (some 5) (.move (.tmp 10)) none]) (.keep [5, 8, 7, 0, 1] c113_4))) (.keep [8, 7, 0, 1] c113_5)) Q a l := (rfl)
def c113_7 : SC := (.seq (.cond (.tmp 9) .skip (.exit 0)) (.keep [8, 7, 0, 1] c113_6))
theorem u113_7 (P : Program) (B : Nat) (T0 : List Nat) (r : Sto) (Q : Ex → Fr → Loc → Prop) (a : Fr) (l : Loc) : SW P B T0 r c113_7 Q a l = SW P B T0 r (.seq (.cond (.tmp 9) .skip (.exit 0)) (.keep [8, 7, 0, 1] c113_6)) Q a l := (rfl)
def c113_8 : SC := (.seq (.reg [SO.mk (some 9) (.bin .lss 3 (.tmp 8) (.tmp 7)) none]) (.keep [9, 1, 0, 7, 8] c113_7))
theorem u113_8 (P : Program) (B : Nat) (T0 : List Nat) (r : Sto) (Q : Ex → Fr → Loc → Prop) (a : Fr) (l : Loc) : SW P B T0 r c113_8 Q a l = SW P B T0 r (.seq (.reg [SO.mk (some 9) (.bin .lss 3 (.tmp 8) (.tmp 7)) none]) (.keep [9, 1, 0, 7, 8] c113_7)) Q a l := (rfl)
def c113_9 : SC := (.block 0 (.loop (.keep [1, 0, 7, 8] c113_8)))
theorem u113_9 (P : Program) (B : Nat) (T0 : List Nat) (r : Sto) (Q : Ex → Fr → Loc → Prop) (a : Fr) (l : Loc) : SW P B T0 r c113_9 Q a l = SW P B T0 r (.block 0 (.loop (.keep [1, 0, 7, 8] c113_8))) Q a l := (rfl)
def c113_10 : SC := (.seq (.reg [SO.mk (some 4) (.move (.const (Value.int .i64 (-1)))) none]) (.keep [4] .ret))
theorem u113_10 (P : Program) (B : Nat) (T0 : List Nat) (r : Sto) (Q : Ex → Fr → Loc → Prop) (a : Fr) (l : Loc) : SW P B T0 r c113_10 Q a l = SW P B T0 r (.seq (.reg [SO.mk (some 4) (.move (.const (Value.int .i64 (-1)))) none]) (.keep [4] .ret)) Q a l := (rfl)
def c113_11 : SC := (.seq (.seq (.reg [SO.mk (some 6) (.move (.tmp 0)) none, SO.mk (some 7) (.len 32 (.tmp 6)) none, SO.mk (some 8) (.move (.const (Value.int .i64 0))) none]) (.keep [1, 0, 7, 8] c113_9)) (.keep [] c113_10))
theorem u113_11 (P : Program) (B : Nat) (T0 : List Nat) (r : Sto) (Q : Ex → Fr → Loc → Prop) (a : Fr) (l : Loc) : SW P B T0 r c113_11 Q a l = SW P B T0 r (.seq (.seq (.reg [SO.mk (some 6) (.move (.tmp 0)) none, SO.mk (some 7) (.len 32 (.tmp 6)) none, SO.mk (some 8) (.move (.const (Value.int .i64 0))) none]) (.keep [1, 0, 7, 8] c113_9)) (.keep [] c113_10)) Q a l := (rfl)
def c113 : SC := (.seq (.reg [SO.mk (some 4) (.move (.const (Value.int .i64 0))) none]) (.keep [1, 0] c113_11))
theorem c113_eq : annC Try.f113 = some c113 := by kernel_rfl
theorem r113 : Try.f113.results.toList = [.tmp 4] := by kernel_rfl
theorem e113 : enters Try.prog 113 = true := by kernel_rfl
/-- slices.ContainsFunc___icehouse_api.Write_icehouse_api.Write_ -/
def c77_1 : SC := (.seq (.reg [SO.mk (some 5) (.move (.tmp 0)) none, SO.mk (some 6) (.move (.tmp 1)) none, SO.mk (some 7) (.call 113 [(.tmp 5), (.tmp 6)]) none, SO.mk (some 8) (.bin .geq 3 (.tmp 7) (.const (Value.int .i64 0))) none, SO.mk (some 4) (.move (.tmp 8)) none]) (.keep [4] .ret))
theorem u77_1 (P : Program) (B : Nat) (T0 : List Nat) (r : Sto) (Q : Ex → Fr → Loc → Prop) (a : Fr) (l : Loc) : SW P B T0 r c77_1 Q a l = SW P B T0 r (.seq (.reg [SO.mk (some 5) (.move (.tmp 0)) none, SO.mk (some 6) (.move (.tmp 1)) none, SO.mk (some 7) (.call 113 [(.tmp 5), (.tmp 6)]) none, SO.mk (some 8) (.bin .geq 3 (.tmp 7) (.const (Value.int .i64 0))) none, SO.mk (some 4) (.move (.tmp 8)) none]) (.keep [4] .ret)) Q a l := (rfl)
def c77 : SC := (.seq (.reg [SO.mk (some 4) (.move (.const (Value.bool false))) none]) (.keep [0, 1] c77_1))
theorem c77_eq : annC Try.f77 = some c77 := by kernel_rfl
theorem r77 : Try.f77.results.toList = [.tmp 4] := by kernel_rfl
theorem e77 : enters Try.prog 77 = true := by kernel_rfl
/-- slices.IndexFunc___icehouse_api.Volume_icehouse_api.Volume_ -/
def o114_1 : List SO := ((SO.mk (some 15) (.load 85 (.tmp 14)) none) :: (SO.mk (some 16) (.callv (.tmp 11) [(.tmp 15)]) none) :: [])
theorem v114_1 (P : Program) (B : Nat) (T0 : List Nat) (r : Sto) (K : Fr → Loc → Prop) (a : Fr) (l : Loc) : SWL P B T0 r o114_1 K a l = SWL P B T0 r ((SO.mk (some 15) (.load 85 (.tmp 14)) none) :: (SO.mk (some 16) (.callv (.tmp 11) [(.tmp 15)]) none) :: []) K a l := (rfl)
def c114_2 : SC := (.seq (.reg [SO.mk (some 17) (.move (.tmp 5)) none, SO.mk (some 4) (.move (.tmp 17)) none]) (.keep [4] .ret))
theorem u114_2 (P : Program) (B : Nat) (T0 : List Nat) (r : Sto) (Q : Ex → Fr → Loc → Prop) (a : Fr) (l : Loc) : SW P B T0 r c114_2 Q a l = SW P B T0 r (.seq (.reg [SO.mk (some 17) (.move (.tmp 5)) none, SO.mk (some 4) (.move (.tmp 17)) none]) (.keep [4] .ret)) Q a l := (rfl)
def c114_3 : SC := (.cond (.tmp 16) c114_2 .skip)
theorem u114_3 (P : Program) (B : Nat) (T0 : List Nat) (r : Sto) (Q : Ex → Fr → Loc → Prop) (a : Fr) (l : Loc) : SW P B T0 r c114_3 Q a l = SW P B T0 r (.cond (.tmp 16) c114_2 .skip) Q a l := (rfl)
def c114_4 : SC := (.seq (.reg ((SO.mk (some 11) (.move (.tmp 1)) none) :: (SO.mk (some 12) (.move (.tmp 0)) none) :: (SO.mk (some 13) (.move (.tmp 5)) none) :: (SO.mk (some 14) (.iaddr 33 (.tmp 12) (.tmp 13)) none) :: o114_1)) (.keep [16, 5, 8, 7, 0, 1] c114_3))
theorem u114_4 (P : Program) (B : Nat) (T0 : List Nat) (r : Sto) (Q : Ex → Fr → Loc → Prop) (a : Fr) (l : Loc) : SW P B T0 r c114_4 Q a l = SW P B T0 r (.seq (.reg ((SO.mk (some 11) (.move (.tmp 1)) none) :: (SO.mk (some 12) (.move (.tmp 0)) none) :: (SO.mk (some 13) (.move (.tmp 5)) none) :: (SO.mk (some 14) (.iaddr 33 (.tmp 12) (.tmp 13)) none) :: o114_1)) (.keep [16, 5, 8, 7, 0, 1] c114_3)) Q a l := (rfl)
def c114_5 : SC := (.reg [SO.mk (some 18) (.bin .add 3 (.tmp 8) (.const (Value.int .i64 1))) none, SO.mk (some 8) (.move (.tmp 18)) none])
theorem u114_5 (P : Program) (B : Nat) (T0 : List Nat) (r : Sto) (Q : Ex → Fr → Loc → Prop) (a : Fr) (l : Loc) : SW P B T0 r c114_5 Q a l = SW P B T0 r (.reg [SO.mk (some 18) (.bin .add 3 (.tmp 8) (.const (Value.int .i64 1))) none, SO.mk (some 8) (.move (.tmp 18)) none]) Q a l := (rfl)
def c114_6 : SC := (.seq (.block 1 (.seq (.reg [SO.mk (some 10) (.move (.tmp 8)) none, SO.mk (some 5) (.move (.tmp 10)) none]) (.keep [5, 8, 7, 0, 1] c114_4))) (.keep [8, 7, 0, 1] c114_5))
theorem u114_6 (P : Program) (B : Nat) (T0 : List Nat) (r : Sto) (Q : Ex → Fr → Loc → Prop) (a : Fr) (l : Loc) : SW P B T0 r c114_6 Q a l = SW P B T0 r (.seq (.block 1 (.seq (.reg [SO.mk (some 10) (.move (.tmp 8)) none, SO.mk (some 5) (.move (.tmp 10)) none]) (.keep [5, 8, 7, 0, 1] c114_4))) (.keep [8, 7, 0, 1] c114_5)) Q a l := (rfl)
def c114_7 : SC := (.seq (.cond (.tmp 9) .skip (.exit 0)) (.keep [8, 7, 0, 1] c114_6))
theorem u114_7 (P : Program) (B : Nat) (T0 : List Nat) (r : Sto) (Q : Ex → Fr → Loc → Prop) (a : Fr) (l : Loc) : SW P B T0 r c114_7 Q a l = SW P B T0 r (.seq (.cond (.tmp 9) .skip (.exit 0)) (.keep [8, 7, 0, 1] c114_6)) Q a l := (rfl)
def c114_8 : SC := (.seq (.reg [SO.mk (some 9) (.bin .lss 3 (.tmp 8) (.tmp 7)) none]) (.keep [9, 1, 0, 7, 8] c114_7))
theorem u114_8 (P : Program) (B : Nat) (T0 : List Nat) (r : Sto) (Q : Ex → Fr → Loc → Prop) (a : Fr) (l : Loc) : SW P B T0 r c114_8 Q a l = SW P B T0 r (.seq (.reg [SO.mk (some 9) (.bin .lss 3 (.tmp 8) (.tmp 7)) none]) (.keep [9, 1, 0, 7, 8] c114_7)) Q a l := (rfl)
def c114_9 : SC := (.block 0 (.loop (.keep [1, 0, 7, 8] c114_8)))
theorem u114_9 (P : Program) (B : Nat) (T0 : List Nat) (r : Sto) (Q : Ex → Fr → Loc → Prop) (a : Fr) (l : Loc) : SW P B T0 r c114_9 Q a l = SW P B T0 r (.block 0 (.loop (.keep [1, 0, 7, 8] c114_8))) Q a l := (rfl)
def c114_10 : SC := (.seq (.reg [SO.mk (some 4) (.move (.const (Value.int .i64 (-1)))) none]) (.keep [4] .ret))
theorem u114_10 (P : Program) (B : Nat) (T0 : List Nat) (r : Sto) (Q : Ex → Fr → Loc → Prop) (a : Fr) (l : Loc) : SW P B T0 r c114_10 Q a l = SW P B T0 r (.seq (.reg [SO.mk (some 4) (.move (.const (Value.int .i64 (-1)))) none]) (.keep [4] .ret)) Q a l := (rfl)
def c114_11 : SC := (.seq (.seq (.reg [SO.mk (some 6) (.move (.tmp 0)) none, SO.mk (some 7) (.len 33 (.tmp 6)) none, SO.mk (some 8) (.move (.const (Value.int .i64 0))) none]) (.keep [1, 0, 7, 8] c114_9)) (.keep [] c114_10))
theorem u114_11 (P : Program) (B : Nat) (T0 : List Nat) (r : Sto) (Q : Ex → Fr → Loc → Prop) (a : Fr) (l : Loc) : SW P B T0 r c114_11 Q a l = SW P B T0 r (.seq (.seq (.reg [SO.mk (some 6) (.move (.tmp 0)) none, SO.mk (some 7) (.len 33 (.tmp 6)) none, SO.mk (some 8) (.move (.const (Value.int .i64 0))) none]) (.keep [1, 0, 7, 8] c114_9)) (.keep [] c114_10)) Q a l := (rfl)
def c114 : SC := (.seq (.reg [SO.mk (some 4) (.move (.const (Value.int .i64 0))) none]) (.keep [1, 0] c114_11))
theorem c114_eq : annC Try.f114 = some c114 := by kernel_rfl
theorem r114 : Try.f114.results.toList = [.tmp 4] := by kernel_rfl
theorem e114 : enters Try.prog 114 = true := by kernel_rfl
/-- slices.ContainsFunc___icehouse_api.Volume_icehouse_api.Volume_ -/
def c79_1 : SC := (.seq (.reg [SO.mk (some 5) (.move (.tmp 0)) none, SO.mk (some 6) (.move (.tmp 1)) none, SO.mk (some 7) (.call 114 [(.tmp 5), (.tmp 6)]) none, SO.mk (some 8) (.bin .geq 3 (.tmp 7) (.const (Value.int .i64 0))) none, SO.mk (some 4) (.move (.tmp 8)) none]) (.keep [4] .ret))
theorem u79_1 (P : Program) (B : Nat) (T0 : List Nat) (r : Sto) (Q : Ex → Fr → Loc → Prop) (a : Fr) (l : Loc) : SW P B T0 r c79_1 Q a l = SW P B T0 r (.seq (.reg [SO.mk (some 5) (.move (.tmp 0)) none, SO.mk (some 6) (.move (.tmp 1)) none, SO.mk (some 7) (.call 114 [(.tmp 5), (.tmp 6)]) none, SO.mk (some 8) (.bin .geq 3 (.tmp 7) (.const (Value.int .i64 0))) none, SO.mk (some 4) (.move (.tmp 8)) none]) (.keep [4] .ret)) Q a l := (rfl)
def c79 : SC := (.seq (.reg [SO.mk (some 4) (.move (.const (Value.bool false))) none]) (.keep [0, 1] c79_1))
theorem c79_eq : annC Try.f79 = some c79 := by kernel_rfl
theorem r79 : Try.f79.results.toList = [.tmp 4] := by kernel_rfl
theorem e79 : enters Try.prog 79 = true := by kernel_rfl
end Go.Proofs.Ytmkcamfanimdoaa
