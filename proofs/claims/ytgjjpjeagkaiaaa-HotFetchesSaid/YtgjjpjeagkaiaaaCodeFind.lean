/- The code of functions, without its places in the text. -/
import Derived.Test.YtgjjpjeagkaiaaaTypes
namespace Go.Proofs.Ytgjjpjeagkaiaaa
open Go.RowKit
set_option maxRecDepth 100000
/-- slices.IndexFunc_____byte___byte_ -/
def o29_1 : List SO := ((SO.mk (some 15) (.load 31 (.tmp 14)) none) :: (SO.mk (some 16) (.callv (.tmp 11) [(.tmp 15)]) none) :: [])
theorem v29_1 (P : Program) (B : Nat) (T0 : List Nat) (r : Sto) (K : Fr → Loc → Prop) (a : Fr) (l : Loc) : SWL P B T0 r o29_1 K a l = SWL P B T0 r ((SO.mk (some 15) (.load 31 (.tmp 14)) none) :: (SO.mk (some 16) (.callv (.tmp 11) [(.tmp 15)]) none) :: []) K a l := (rfl)
def c29_2 : SC := (.seq (.reg [SO.mk (some 17) (.move (.tmp 5)) none, SO.mk (some 4) (.move (.tmp 17)) none]) (.keep [4] .ret))
theorem u29_2 (P : Program) (B : Nat) (T0 : List Nat) (r : Sto) (Q : Ex → Fr → Loc → Prop) (a : Fr) (l : Loc) : SW P B T0 r c29_2 Q a l = SW P B T0 r (.seq (.reg [SO.mk (some 17) (.move (.tmp 5)) none, SO.mk (some 4) (.move (.tmp 17)) none]) (.keep [4] .ret)) Q a l := (rfl)
def c29_3 : SC := (.cond (.tmp 16) c29_2 .skip)
theorem u29_3 (P : Program) (B : Nat) (T0 : List Nat) (r : Sto) (Q : Ex → Fr → Loc → Prop) (a : Fr) (l : Loc) : SW P B T0 r c29_3 Q a l = SW P B T0 r (.cond (.tmp 16) c29_2 .skip) Q a l := (rfl)
def c29_4 : SC := (.seq (.reg ((SO.mk (some 11) (.move (.tmp 1)) none) :: (SO.mk (some 12) (.move (.tmp 0)) none) :: (SO.mk (some 13) (.move (.tmp 5)) none) :: (SO.mk (some 14) (.iaddr 24 (.tmp 12) (.tmp 13)) none) :: o29_1)) (.keep [16, 5, 8, 7, 0, 1] c29_3))
theorem u29_4 (P : Program) (B : Nat) (T0 : List Nat) (r : Sto) (Q : Ex → Fr → Loc → Prop) (a : Fr) (l : Loc) : SW P B T0 r c29_4 Q a l = SW P B T0 r (.seq (.reg ((SO.mk (some 11) (.move (.tmp 1)) none) :: (SO.mk (some 12) (.move (.tmp 0)) none) :: (SO.mk (some 13) (.move (.tmp 5)) none) :: (SO.mk (some 14) (.iaddr 24 (.tmp 12) (.tmp 13)) none) :: o29_1)) (.keep [16, 5, 8, 7, 0, 1] c29_3)) Q a l := (rfl)
def c29_5 : SC := (.reg [SO.mk (some 18) (.bin .add 3 (.tmp 8) (.const (Value.int .i64 1))) none, SO.mk (some 8) (.move (.tmp 18)) none])
theorem u29_5 (P : Program) (B : Nat) (T0 : List Nat) (r : Sto) (Q : Ex → Fr → Loc → Prop) (a : Fr) (l : Loc) : SW P B T0 r c29_5 Q a l = SW P B T0 r (.reg [SO.mk (some 18) (.bin .add 3 (.tmp 8) (.const (Value.int .i64 1))) none, SO.mk (some 8) (.move (.tmp 18)) none]) Q a l := (rfl)
def c29_6 : SC := (.seq (.block 1 (.seq (.reg [SO.mk (some 10) (.move (.tmp 8)) none, SO.mk (some 5) (.move (.tmp 10)) none]) (.keep [5, 8, 7, 0, 1] c29_4))) (.keep [8, 7, 0, 1] c29_5))
theorem u29_6 (P : Program) (B : Nat) (T0 : List Nat) (r : Sto) (Q : Ex → Fr → Loc → Prop) (a : Fr) (l : Loc) : SW P B T0 r c29_6 Q a l = SW P B T0 r (.seq (.block 1 (.seq (.reg [SO.mk (some 10) (.move (.tmp 8)) none, SO.mk (some 5) (.move (.tmp 10)) none]) (.keep [5, 8, 7, 0, 1] c29_4))) (.keep [8, 7, 0, 1] c29_5)) Q a l := (rfl)
def c29_7 : SC := (.seq (.cond (.tmp 9) .skip (.exit 0)) (.keep [8, 7, 0, 1] c29_6))
theorem u29_7 (P : Program) (B : Nat) (T0 : List Nat) (r : Sto) (Q : Ex → Fr → Loc → Prop) (a : Fr) (l : Loc) : SW P B T0 r c29_7 Q a l = SW P B T0 r (.seq (.cond (.tmp 9) .skip (.exit 0)) (.keep [8, 7, 0, 1] c29_6)) Q a l := (rfl)
def c29_8 : SC := (.seq (.reg [SO.mk (some 9) (.bin .lss 3 (.tmp 8) (.tmp 7)) none]) (.keep [9, 1, 0, 7, 8] c29_7))
theorem u29_8 (P : Program) (B : Nat) (T0 : List Nat) (r : Sto) (Q : Ex → Fr → Loc → Prop) (a : Fr) (l : Loc) : SW P B T0 r c29_8 Q a l = SW P B T0 r (.seq (.reg [SO.mk (some 9) (.bin .lss 3 (.tmp 8) (.tmp 7)) none]) (.keep [9, 1, 0, 7, 8] c29_7)) Q a l := (rfl)
def c29_9 : SC := (.block 0 (.loop (.keep [1, 0, 7, 8] c29_8)))
theorem u29_9 (P : Program) (B : Nat) (T0 : List Nat) (r : Sto) (Q : Ex → Fr → Loc → Prop) (a : Fr) (l : Loc) : SW P B T0 r c29_9 Q a l = SW P B T0 r (.block 0 (.loop (.keep [1, 0, 7, 8] c29_8))) Q a l := (rfl)
def c29_10 : SC := (.seq (.reg [SO.mk (some 4) (.move (.const (Value.int .i64 (-1)))) none]) (.keep [4] .ret))
theorem u29_10 (P : Program) (B : Nat) (T0 : List Nat) (r : Sto) (Q : Ex → Fr → Loc → Prop) (a : Fr) (l : Loc) : SW P B T0 r c29_10 Q a l = SW P B T0 r (.seq (.reg [SO.mk (some 4) (.move (.const (Value.int .i64 (-1)))) none]) (.keep [4] .ret)) Q a l := (rfl)
def c29_11 : SC := (.seq (.seq (.reg [SO.mk (some 6) (.move (.tmp 0)) none, SO.mk (some 7) (.len 24 (.tmp 6)) none, SO.mk (some 8) (.move (.const (Value.int .i64 0))) none]) (.keep [1, 0, 7, 8] c29_9)) (.keep [] c29_10))
theorem u29_11 (P : Program) (B : Nat) (T0 : List Nat) (r : Sto) (Q : Ex → Fr → Loc → Prop) (a : Fr) (l : Loc) : SW P B T0 r c29_11 Q a l = SW P B T0 r (.seq (.seq (.reg [SO.mk (some 6) (.move (.tmp 0)) none, SO.mk (some 7) (.len 24 (.tmp 6)) none, SO.mk (some 8) (.move (.const (Value.int .i64 0))) none]) (.keep [1, 0, 7, 8] c29_9)) (.keep [] c29_10)) Q a l := (rfl)
def c29 : SC := (.seq (.reg [SO.mk (some 4) (.move (.const (Value.int .i64 0))) none]) (.keep [1, 0] c29_11))
theorem c29_eq : annC Try.f29 = some c29 := by kernel_rfl
theorem r29 : Try.f29.results.toList = [.tmp 4] := by kernel_rfl
theorem e29 : enters Try.prog 29 = true := by kernel_rfl
/-- slices.ContainsFunc_____byte___byte_ -/
def c21_1 : SC := (.seq (.reg [SO.mk (some 5) (.move (.tmp 0)) none, SO.mk (some 6) (.move (.tmp 1)) none, SO.mk (some 7) (.call 29 [(.tmp 5), (.tmp 6)]) none, SO.mk (some 8) (.bin .geq 3 (.tmp 7) (.const (Value.int .i64 0))) none, SO.mk (some 4) (.move (.tmp 8)) none]) (.keep [4] .ret))
theorem u21_1 (P : Program) (B : Nat) (T0 : List Nat) (r : Sto) (Q : Ex → Fr → Loc → Prop) (a : Fr) (l : Loc) : SW P B T0 r c21_1 Q a l = SW P B T0 r (.seq (.reg [SO.mk (some 5) (.move (.tmp 0)) none, SO.mk (some 6) (.move (.tmp 1)) none, SO.mk (some 7) (.call 29 [(.tmp 5), (.tmp 6)]) none, SO.mk (some 8) (.bin .geq 3 (.tmp 7) (.const (Value.int .i64 0))) none, SO.mk (some 4) (.move (.tmp 8)) none]) (.keep [4] .ret)) Q a l := (rfl)
def c21 : SC := (.seq (.reg [SO.mk (some 4) (.move (.const (Value.bool false))) none]) (.keep [0, 1] c21_1))
theorem c21_eq : annC Try.f21 = some c21 := by kernel_rfl
theorem r21 : Try.f21.results.toList = [.tmp 4] := by kernel_rfl
theorem e21 : enters Try.prog 21 = true := by kernel_rfl
/-- slices.IndexFunc___icehouse_api.Write_icehouse_api.Write_ -/
def o30_1 : List SO := ((SO.mk (some 15) (.load 53 (.tmp 14)) none) :: (SO.mk (some 16) (.callv (.tmp 11) [(.tmp 15)]) none) :: [])
theorem v30_1 (P : Program) (B : Nat) (T0 : List Nat) (r : Sto) (K : Fr → Loc → Prop) (a : Fr) (l : Loc) : SWL P B T0 r o30_1 K a l = SWL P B T0 r ((SO.mk (some 15) (.load 53 (.tmp 14)) none) :: (SO.mk (some 16) (.callv (.tmp 11) [(.tmp 15)]) none) :: []) K a l := (rfl)
def c30_2 : SC := (.seq (.reg [SO.mk (some 17) (.move (.tmp 5)) none, SO.mk (some 4) (.move (.tmp 17)) none]) (.keep [4] .ret))
theorem u30_2 (P : Program) (B : Nat) (T0 : List Nat) (r : Sto) (Q : Ex → Fr → Loc → Prop) (a : Fr) (l : Loc) : SW P B T0 r c30_2 Q a l = SW P B T0 r (.seq (.reg [SO.mk (some 17) (.move (.tmp 5)) none, SO.mk (some 4) (.move (.tmp 17)) none]) (.keep [4] .ret)) Q a l := (rfl)
def c30_3 : SC := (.cond (.tmp 16) c30_2 .skip)
theorem u30_3 (P : Program) (B : Nat) (T0 : List Nat) (r : Sto) (Q : Ex → Fr → Loc → Prop) (a : Fr) (l : Loc) : SW P B T0 r c30_3 Q a l = SW P B T0 r (.cond (.tmp 16) c30_2 .skip) Q a l := (rfl)
def c30_4 : SC := (.seq (.reg ((SO.mk (some 11) (.move (.tmp 1)) none) :: (SO.mk (some 12) (.move (.tmp 0)) none) :: (SO.mk (some 13) (.move (.tmp 5)) none) :: (SO.mk (some 14) (.iaddr 25 (.tmp 12) (.tmp 13)) none) :: o30_1)) (.keep [16, 5, 8, 7, 0, 1] c30_3))
theorem u30_4 (P : Program) (B : Nat) (T0 : List Nat) (r : Sto) (Q : Ex → Fr → Loc → Prop) (a : Fr) (l : Loc) : SW P B T0 r c30_4 Q a l = SW P B T0 r (.seq (.reg ((SO.mk (some 11) (.move (.tmp 1)) none) :: (SO.mk (some 12) (.move (.tmp 0)) none) :: (SO.mk (some 13) (.move (.tmp 5)) none) :: (SO.mk (some 14) (.iaddr 25 (.tmp 12) (.tmp 13)) none) :: o30_1)) (.keep [16, 5, 8, 7, 0, 1] c30_3)) Q a l := (rfl)
def c30_5 : SC := (.reg [SO.mk (some 18) (.bin .add 3 (.tmp 8) (.const (Value.int .i64 1))) none, SO.mk (some 8) (.move (.tmp 18)) none])
theorem u30_5 (P : Program) (B : Nat) (T0 : List Nat) (r : Sto) (Q : Ex → Fr → Loc → Prop) (a : Fr) (l : Loc) : SW P B T0 r c30_5 Q a l = SW P B T0 r (.reg [SO.mk (some 18) (.bin .add 3 (.tmp 8) (.const (Value.int .i64 1))) none, SO.mk (some 8) (.move (.tmp 18)) none]) Q a l := (rfl)
def c30_6 : SC := (.seq (.block 1 (.seq (.reg [SO.mk (some 10) (.move (.tmp 8)) none, SO.mk (some 5) (.move (.tmp 10)) none]) (.keep [5, 8, 7, 0, 1] c30_4))) (.keep [8, 7, 0, 1] c30_5))
theorem u30_6 (P : Program) (B : Nat) (T0 : List Nat) (r : Sto) (Q : Ex → Fr → Loc → Prop) (a : Fr) (l : Loc) : SW P B T0 r c30_6 Q a l = SW P B T0 r (.seq (.block 1 (.seq (.reg [SO.mk (some 10) (.move (.tmp 8)) none, SO.mk (some 5) (.move (.tmp 10)) none]) (.keep [5, 8, 7, 0, 1] c30_4))) (.keep [8, 7, 0, 1] c30_5)) Q a l := (rfl)
def c30_7 : SC := (.seq (.cond (.tmp 9) .skip (.exit 0)) (.keep [8, 7, 0, 1] c30_6))
theorem u30_7 (P : Program) (B : Nat) (T0 : List Nat) (r : Sto) (Q : Ex → Fr → Loc → Prop) (a : Fr) (l : Loc) : SW P B T0 r c30_7 Q a l = SW P B T0 r (.seq (.cond (.tmp 9) .skip (.exit 0)) (.keep [8, 7, 0, 1] c30_6)) Q a l := (rfl)
def c30_8 : SC := (.seq (.reg [SO.mk (some 9) (.bin .lss 3 (.tmp 8) (.tmp 7)) none]) (.keep [9, 1, 0, 7, 8] c30_7))
theorem u30_8 (P : Program) (B : Nat) (T0 : List Nat) (r : Sto) (Q : Ex → Fr → Loc → Prop) (a : Fr) (l : Loc) : SW P B T0 r c30_8 Q a l = SW P B T0 r (.seq (.reg [SO.mk (some 9) (.bin .lss 3 (.tmp 8) (.tmp 7)) none]) (.keep [9, 1, 0, 7, 8] c30_7)) Q a l := (rfl)
def c30_9 : SC := (.block 0 (.loop (.keep [1, 0, 7, 8] c30_8)))
theorem u30_9 (P : Program) (B : Nat) (T0 : List Nat) (r : Sto) (Q : Ex → Fr → Loc → Prop) (a : Fr) (l : Loc) : SW P B T0 r c30_9 Q a l = SW P B T0 r (.block 0 (.loop (.keep [1, 0, 7, 8] c30_8))) Q a l := (rfl)
def c30_10 : SC := (.seq (.reg [SO.mk (some 4) (.move (.const (Value.int .i64 (-1)))) none]) (.keep [4] .ret))
theorem u30_10 (P : Program) (B : Nat) (T0 : List Nat) (r : Sto) (Q : Ex → Fr → Loc → Prop) (a : Fr) (l : Loc) : SW P B T0 r c30_10 Q a l = SW P B T0 r (.seq (.reg [SO.mk (some 4) (.move (.const (Value.int .i64 (-1)))) none]) (.keep [4] .ret)) Q a l := (rfl)
def c30_11 : SC := (.seq (.seq (.reg [SO.mk (some 6) (.move (.tmp 0)) none, SO.mk (some 7) (.len 25 (.tmp 6)) none, SO.mk (some 8) (.move (.const (Value.int .i64 0))) none]) (.keep [1, 0, 7, 8] c30_9)) (.keep [] c30_10))
theorem u30_11 (P : Program) (B : Nat) (T0 : List Nat) (r : Sto) (Q : Ex → Fr → Loc → Prop) (a : Fr) (l : Loc) : SW P B T0 r c30_11 Q a l = SW P B T0 r (.seq (.seq (.reg [SO.mk (some 6) (.move (.tmp 0)) none, SO.mk (some 7) (.len 25 (.tmp 6)) none, SO.mk (some 8) (.move (.const (Value.int .i64 0))) none]) (.keep [1, 0, 7, 8] c30_9)) (.keep [] c30_10)) Q a l := (rfl)
def c30 : SC := (.seq (.reg [SO.mk (some 4) (.move (.const (Value.int .i64 0))) none]) (.keep [1, 0] c30_11))
theorem c30_eq : annC Try.f30 = some c30 := by kernel_rfl
theorem r30 : Try.f30.results.toList = [.tmp 4] := by kernel_rfl
theorem e30 : enters Try.prog 30 = true := by kernel_rfl
/-- slices.ContainsFunc___icehouse_api.Write_icehouse_api.Write_ -/
def c23_1 : SC := (.seq (.reg [SO.mk (some 5) (.move (.tmp 0)) none, SO.mk (some 6) (.move (.tmp 1)) none, SO.mk (some 7) (.call 30 [(.tmp 5), (.tmp 6)]) none, SO.mk (some 8) (.bin .geq 3 (.tmp 7) (.const (Value.int .i64 0))) none, SO.mk (some 4) (.move (.tmp 8)) none]) (.keep [4] .ret))
theorem u23_1 (P : Program) (B : Nat) (T0 : List Nat) (r : Sto) (Q : Ex → Fr → Loc → Prop) (a : Fr) (l : Loc) : SW P B T0 r c23_1 Q a l = SW P B T0 r (.seq (.reg [SO.mk (some 5) (.move (.tmp 0)) none, SO.mk (some 6) (.move (.tmp 1)) none, SO.mk (some 7) (.call 30 [(.tmp 5), (.tmp 6)]) none, SO.mk (some 8) (.bin .geq 3 (.tmp 7) (.const (Value.int .i64 0))) none, SO.mk (some 4) (.move (.tmp 8)) none]) (.keep [4] .ret)) Q a l := (rfl)
def c23 : SC := (.seq (.reg [SO.mk (some 4) (.move (.const (Value.bool false))) none]) (.keep [0, 1] c23_1))
theorem c23_eq : annC Try.f23 = some c23 := by kernel_rfl
theorem r23 : Try.f23.results.toList = [.tmp 4] := by kernel_rfl
theorem e23 : enters Try.prog 23 = true := by kernel_rfl
/-- slices.IndexFunc___icehouse_api.Volume_icehouse_api.Volume_ -/
def o31_1 : List SO := ((SO.mk (some 15) (.load 43 (.tmp 14)) none) :: (SO.mk (some 16) (.callv (.tmp 11) [(.tmp 15)]) none) :: [])
theorem v31_1 (P : Program) (B : Nat) (T0 : List Nat) (r : Sto) (K : Fr → Loc → Prop) (a : Fr) (l : Loc) : SWL P B T0 r o31_1 K a l = SWL P B T0 r ((SO.mk (some 15) (.load 43 (.tmp 14)) none) :: (SO.mk (some 16) (.callv (.tmp 11) [(.tmp 15)]) none) :: []) K a l := (rfl)
def c31_2 : SC := (.seq (.reg [SO.mk (some 17) (.move (.tmp 5)) none, SO.mk (some 4) (.move (.tmp 17)) none]) (.keep [4] .ret))
theorem u31_2 (P : Program) (B : Nat) (T0 : List Nat) (r : Sto) (Q : Ex → Fr → Loc → Prop) (a : Fr) (l : Loc) : SW P B T0 r c31_2 Q a l = SW P B T0 r (.seq (.reg [SO.mk (some 17) (.move (.tmp 5)) none, SO.mk (some 4) (.move (.tmp 17)) none]) (.keep [4] .ret)) Q a l := (rfl)
def c31_3 : SC := (.cond (.tmp 16) c31_2 .skip)
theorem u31_3 (P : Program) (B : Nat) (T0 : List Nat) (r : Sto) (Q : Ex → Fr → Loc → Prop) (a : Fr) (l : Loc) : SW P B T0 r c31_3 Q a l = SW P B T0 r (.cond (.tmp 16) c31_2 .skip) Q a l := (rfl)
def c31_4 : SC := (.seq (.reg ((SO.mk (some 11) (.move (.tmp 1)) none) :: (SO.mk (some 12) (.move (.tmp 0)) none) :: (SO.mk (some 13) (.move (.tmp 5)) none) :: (SO.mk (some 14) (.iaddr 26 (.tmp 12) (.tmp 13)) none) :: o31_1)) (.keep [16, 5, 8, 7, 0, 1] c31_3))
theorem u31_4 (P : Program) (B : Nat) (T0 : List Nat) (r : Sto) (Q : Ex → Fr → Loc → Prop) (a : Fr) (l : Loc) : SW P B T0 r c31_4 Q a l = SW P B T0 r (.seq (.reg ((SO.mk (some 11) (.move (.tmp 1)) none) :: (SO.mk (some 12) (.move (.tmp 0)) none) :: (SO.mk (some 13) (.move (.tmp 5)) none) :: (SO.mk (some 14) (.iaddr 26 (.tmp 12) (.tmp 13)) none) :: o31_1)) (.keep [16, 5, 8, 7, 0, 1] c31_3)) Q a l := (rfl)
def c31_5 : SC := (.reg [SO.mk (some 18) (.bin .add 3 (.tmp 8) (.const (Value.int .i64 1))) none, SO.mk (some 8) (.move (.tmp 18)) none])
theorem u31_5 (P : Program) (B : Nat) (T0 : List Nat) (r : Sto) (Q : Ex → Fr → Loc → Prop) (a : Fr) (l : Loc) : SW P B T0 r c31_5 Q a l = SW P B T0 r (.reg [SO.mk (some 18) (.bin .add 3 (.tmp 8) (.const (Value.int .i64 1))) none, SO.mk (some 8) (.move (.tmp 18)) none]) Q a l := (rfl)
def c31_6 : SC := (.seq (.block 1 (.seq (.reg [SO.mk (some 10) (.move (.tmp 8)) none, SO.mk (some 5) (.move (.tmp 10)) none]) (.keep [5, 8, 7, 0, 1] c31_4))) (.keep [8, 7, 0, 1] c31_5))
theorem u31_6 (P : Program) (B : Nat) (T0 : List Nat) (r : Sto) (Q : Ex → Fr → Loc → Prop) (a : Fr) (l : Loc) : SW P B T0 r c31_6 Q a l = SW P B T0 r (.seq (.block 1 (.seq (.reg [SO.mk (some 10) (.move (.tmp 8)) none, SO.mk (some 5) (.move (.tmp 10)) none]) (.keep [5, 8, 7, 0, 1] c31_4))) (.keep [8, 7, 0, 1] c31_5)) Q a l := (rfl)
def c31_7 : SC := (.seq (.cond (.tmp 9) .skip (.exit 0)) (.keep [8, 7, 0, 1] c31_6))
theorem u31_7 (P : Program) (B : Nat) (T0 : List Nat) (r : Sto) (Q : Ex → Fr → Loc → Prop) (a : Fr) (l : Loc) : SW P B T0 r c31_7 Q a l = SW P B T0 r (.seq (.cond (.tmp 9) .skip (.exit 0)) (.keep [8, 7, 0, 1] c31_6)) Q a l := (rfl)
def c31_8 : SC := (.seq (.reg [SO.mk (some 9) (.bin .lss 3 (.tmp 8) (.tmp 7)) none]) (.keep [9, 1, 0, 7, 8] c31_7))
theorem u31_8 (P : Program) (B : Nat) (T0 : List Nat) (r : Sto) (Q : Ex → Fr → Loc → Prop) (a : Fr) (l : Loc) : SW P B T0 r c31_8 Q a l = SW P B T0 r (.seq (.reg [SO.mk (some 9) (.bin .lss 3 (.tmp 8) (.tmp 7)) none]) (.keep [9, 1, 0, 7, 8] c31_7)) Q a l := (rfl)
def c31_9 : SC := (.block 0 (.loop (.keep [1, 0, 7, 8] c31_8)))
theorem u31_9 (P : Program) (B : Nat) (T0 : List Nat) (r : Sto) (Q : Ex → Fr → Loc → Prop) (a : Fr) (l : Loc) : SW P B T0 r c31_9 Q a l = SW P B T0 r (.block 0 (.loop (.keep [1, 0, 7, 8] c31_8))) Q a l := (rfl)
def c31_10 : SC := (.seq (.reg [SO.mk (some 4) (.move (.const (Value.int .i64 (-1)))) none]) (.keep [4] .ret))
theorem u31_10 (P : Program) (B : Nat) (T0 : List Nat) (r : Sto) (Q : Ex → Fr → Loc → Prop) (a : Fr) (l : Loc) : SW P B T0 r c31_10 Q a l = SW P B T0 r (.seq (.reg [SO.mk (some 4) (.move (.const (Value.int .i64 (-1)))) none]) (.keep [4] .ret)) Q a l := (rfl)
def c31_11 : SC := (.seq (.seq (.reg [SO.mk (some 6) (.move (.tmp 0)) none, SO.mk (some 7) (.len 26 (.tmp 6)) none, SO.mk (some 8) (.move (.const (Value.int .i64 0))) none]) (.keep [1, 0, 7, 8] c31_9)) (.keep [] c31_10))
theorem u31_11 (P : Program) (B : Nat) (T0 : List Nat) (r : Sto) (Q : Ex → Fr → Loc → Prop) (a : Fr) (l : Loc) : SW P B T0 r c31_11 Q a l = SW P B T0 r (.seq (.seq (.reg [SO.mk (some 6) (.move (.tmp 0)) none, SO.mk (some 7) (.len 26 (.tmp 6)) none, SO.mk (some 8) (.move (.const (Value.int .i64 0))) none]) (.keep [1, 0, 7, 8] c31_9)) (.keep [] c31_10)) Q a l := (rfl)
def c31 : SC := (.seq (.reg [SO.mk (some 4) (.move (.const (Value.int .i64 0))) none]) (.keep [1, 0] c31_11))
theorem c31_eq : annC Try.f31 = some c31 := by kernel_rfl
theorem r31 : Try.f31.results.toList = [.tmp 4] := by kernel_rfl
theorem e31 : enters Try.prog 31 = true := by kernel_rfl
/-- slices.ContainsFunc___icehouse_api.Volume_icehouse_api.Volume_ -/
def c25_1 : SC := (.seq (.reg [SO.mk (some 5) (.move (.tmp 0)) none, SO.mk (some 6) (.move (.tmp 1)) none, SO.mk (some 7) (.call 31 [(.tmp 5), (.tmp 6)]) none, SO.mk (some 8) (.bin .geq 3 (.tmp 7) (.const (Value.int .i64 0))) none, SO.mk (some 4) (.move (.tmp 8)) none]) (.keep [4] .ret))
theorem u25_1 (P : Program) (B : Nat) (T0 : List Nat) (r : Sto) (Q : Ex → Fr → Loc → Prop) (a : Fr) (l : Loc) : SW P B T0 r c25_1 Q a l = SW P B T0 r (.seq (.reg [SO.mk (some 5) (.move (.tmp 0)) none, SO.mk (some 6) (.move (.tmp 1)) none, SO.mk (some 7) (.call 31 [(.tmp 5), (.tmp 6)]) none, SO.mk (some 8) (.bin .geq 3 (.tmp 7) (.const (Value.int .i64 0))) none, SO.mk (some 4) (.move (.tmp 8)) none]) (.keep [4] .ret)) Q a l := (rfl)
def c25 : SC := (.seq (.reg [SO.mk (some 4) (.move (.const (Value.bool false))) none]) (.keep [0, 1] c25_1))
theorem c25_eq : annC Try.f25 = some c25 := by kernel_rfl
theorem r25 : Try.f25.results.toList = [.tmp 4] := by kernel_rfl
theorem e25 : enters Try.prog 25 = true := by kernel_rfl
end Go.Proofs.Ytgjjpjeagkaiaaa
